import PyProof.Rows.All
import Wide.All
import OpenK.AllK
import Wide.FinOn
import HandS.ForMost
import HandS.ForExc
import KE.SortData
import KE.DatumOrd
import KE.DataMinMax
import HandS.TupAny
import HandS.Style
import HandS.IsInst
import HandS.Deep
import KE.DatumIndex
import HandS.WordsDict
import HandS.TupLen
import HandS.SortRule
import HandS.Conv
import HandS.Zip
import HandS.DictComp
import HandS.Codes
import HandS.Small
import KE.KStateDown
import HandS.Defaults
import HandS.Head0
import HandS.Head1
import HandS.Head2
import HandS.HeadEnd
import HandS.HeadHook1
import HandS.HeadHook2
import HandS.HeadHook3
import HandS.HeadHook4
import PyProof.ReprLen
import PySem.Challenge.RW_turnabouts_k36_whole_least_rounds
section
set_option Elab.async false
set_option linter.all false
set_option maxRecDepth 100000
set_option maxHeartbeats 2000000
/-! Roots: values of the abstract heap that stand for pure data, each with a mode (F: never written again; O m: owned by its root alone, its children of the mode m). -/
namespace Dt
open PySem PySem.Spec PyProof.Rows L2

abbrev D := PyData
/-- how a root holds its object -/
inductive Md where
  | F
  | O (m : Md)
  deriving DecidableEq, Repr
def kD : Key → D
  | .inl i => .int i
  | .inr x => .str x
def eK (p : Key × V) : D × V := (kD p.1, p.2)
def eT (p : List Key × V) : D × V := (.tuple (p.1.map kD), p.2)
/-- an object that no rule writes -/
def imm : HO → Bool
  | .tup _ => true
  | .frz _ _ => true
  | _ => false
def FL (H : Hp) (Z : Addr → Prop) (a : Addr) (xs : List V) : Prop := (Z a ∧ H a = some (.lst xs)) ∨ ∃ o, H a = some (.frz o (.lst xs))
mutual
inductive Rd (H : Hp) (Z : Addr → Prop) : V → D → Prop
  | non : Rd H Z .non .none
  | bl (b : Bool) : Rd H Z (.bl b) (.bool b)
  | int (i : Int) : Rd H Z (.int i) (.int i)
  | str (x : Str) : Rd H Z (.str x) (.str x)
  | lst {a : Addr} {xs : List V} {ds : List D} : FL H Z a xs → RdA H Z xs ds → Rd H Z (.ref a) (.list ds)
  | tup {a : Addr} {xs : List V} {ds : List D} : H a = some (.tup xs) → RdA H Z xs ds → Rd H Z (.ref a) (.tuple ds)
  | dK {a : Addr} {kvs : List (Key × V)} {es : List (D × D)} : Z a → H a = some (.dK kvs) → RdE H Z (kvs.map eK) es → Rd H Z (.ref a) (.dict es)
  | dT {a : Addr} {kvs : List (List Key × V)} {es : List (D × D)} : Z a → kvs ≠ [] → H a = some (.dT kvs) → RdE H Z (kvs.map eT) es → Rd H Z (.ref a) (.dict es)
inductive RdA (H : Hp) (Z : Addr → Prop) : List V → List D → Prop
  | nil : RdA H Z [] []
  | cons {v : V} {vs : List V} {d : D} {ds : List D} : Rd H Z v d → RdA H Z vs ds → RdA H Z (v :: vs) (d :: ds)
inductive RdE (H : Hp) (Z : Addr → Prop) : List (D × V) → List (D × D) → Prop
  | nil : RdE H Z [] []
  | cons {k : D} {v : V} {vs : List (D × V)} {d : D} {ds : List (D × D)} : Rd H Z v d → RdE H Z vs ds → RdE H Z ((k, v) :: vs) ((k, d) :: ds)
end
/-- lists of children, footprints joined -/
inductive OwnA (P : V → D → List Addr → Prop) : List V → List D → List Addr → Prop
  | nil : OwnA P [] [] []
  | cons {v : V} {vs : List V} {d : D} {ds : List D} {f g : List Addr} : P v d f → OwnA P vs ds g → OwnA P (v :: vs) (d :: ds) (f ++ g)
inductive OwnE (P : V → D → List Addr → Prop) : List (D × V) → List (D × D) → List Addr → Prop
  | nil : OwnE P [] [] []
  | cons {k : D} {v : V} {vs : List (D × V)} {d : D} {ds : List (D × D)} {f g : List Addr} : P v d f → OwnE P vs ds g → OwnE P ((k, v) :: vs) ((k, d) :: ds) (f ++ g)
def Own (H : Hp) (Z : Addr → Prop) : Md → V → D → List Addr → Prop
  | .F, v, d, fp => Rd H Z v d ∧ fp = []
  | .O m, v, d, fp => ∃ (a : Addr) (fs : List Addr), v = .ref a ∧ fp = a :: fs ∧
      ((∃ xs ds, H a = some (.lst xs) ∧ d = .list ds ∧ OwnA (Own H Z m) xs ds fs) ∨
       (∃ kvs es, H a = some (.dK kvs) ∧ d = .dict es ∧ OwnE (Own H Z m) (kvs.map eK) es fs) ∨
       (∃ kvs es, kvs ≠ [] ∧ H a = some (.dT kvs) ∧ d = .dict es ∧ OwnE (Own H Z m) (kvs.map eT) es fs))
abbrev Root := V × D × Md
inductive OwnR (H : Hp) (Z : Addr → Prop) : List Root → List Addr → Prop
  | nil : OwnR H Z [] []
  | cons {v : V} {d : D} {m : Md} {rs : List Root} {f g : List Addr} : Own H Z m v d f → OwnR H Z rs g → OwnR H Z ((v, d, m) :: rs) (f ++ g)
/-- Z and fp: what is frozen, what is owned -/
structure RepZ (rs : List Root) (H : Hp) (Z : Addr → Prop) (fp : List Addr) : Prop where
  own : OwnR H Z rs fp
  nd : fp.Nodup
  off : ∀ a ∈ fp, ¬ Z a
  dom : ∀ a, Z a → H a ≠ none
def Rep (rs : List Root) (H : Hp) : Prop := ∃ Z fp, RepZ rs H Z fp

/-! ### stability -/
/-- what is frozen or immutable stays -/
def Ext (Z : Addr → Prop) (H H' : Hp) : Prop := ∀ a o, H a = some o → (Z a ∨ imm o = true) → H' a = some o
mutual
theorem Rd.mono {H H' : Hp} {Z Z' : Addr → Prop} (x : Ext Z H H') (z : ∀ a, Z a → Z' a) : ∀ {v : V} {d : D}, Rd H Z v d → Rd H' Z' v d
  | _, _, .non => .non
  | _, _, .bl b => .bl b
  | _, _, .int i => .int i
  | _, _, .str s => .str s
  | _, _, .lst (.inl ⟨h1, h2⟩) r => .lst (.inl ⟨z _ h1, x _ _ h2 (.inl h1)⟩) (RdA.mono x z r)
  | _, _, .lst (.inr ⟨o, h⟩) r => .lst (.inr ⟨o, x _ _ h (.inr rfl)⟩) (RdA.mono x z r)
  | _, _, .tup h r => .tup (x _ _ h (.inr rfl)) (RdA.mono x z r)
  | _, _, .dK h1 h2 r => .dK (z _ h1) (x _ _ h2 (.inl h1)) (RdE.mono x z r)
  | _, _, .dT h1 n h2 r => .dT (z _ h1) n (x _ _ h2 (.inl h1)) (RdE.mono x z r)
theorem RdA.mono {H H' : Hp} {Z Z' : Addr → Prop} (x : Ext Z H H') (z : ∀ a, Z a → Z' a) : ∀ {vs : List V} {ds : List D}, RdA H Z vs ds → RdA H' Z' vs ds
  | _, _, .nil => .nil
  | _, _, .cons h t => .cons (Rd.mono x z h) (RdA.mono x z t)
theorem RdE.mono {H H' : Hp} {Z Z' : Addr → Prop} (x : Ext Z H H') (z : ∀ a, Z a → Z' a) : ∀ {vs : List (D × V)} {ds : List (D × D)}, RdE H Z vs ds → RdE H' Z' vs ds
  | _, _, .nil => .nil
  | _, _, .cons h t => .cons (Rd.mono x z h) (RdE.mono x z t)
end
theorem OwnA.imp {P Q : V → D → List Addr → Prop} : ∀ {vs : List V} {ds : List D} {fp : List Addr}, OwnA P vs ds fp → (∀ v d f, P v d f → (∀ a ∈ f, a ∈ fp) → Q v d f) → OwnA Q vs ds fp
  | _, _, _, .nil, _ => .nil
  | _, _, _, .cons h t, k => .cons (k _ _ _ h fun _ m => List.mem_append_left _ m) (OwnA.imp t fun v d f p q => k v d f p fun a m => List.mem_append_right _ (q a m))
theorem OwnE.imp {P Q : V → D → List Addr → Prop} : ∀ {vs : List (D × V)} {ds : List (D × D)} {fp : List Addr}, OwnE P vs ds fp → (∀ v d f, P v d f → (∀ a ∈ f, a ∈ fp) → Q v d f) → OwnE Q vs ds fp
  | _, _, _, .nil, _ => .nil
  | _, _, _, .cons h t, k => .cons (k _ _ _ h fun _ m => List.mem_append_left _ m) (OwnE.imp t fun v d f p q => k v d f p fun a m => List.mem_append_right _ (q a m))
theorem Own.mono {H H' : Hp} {Z Z' : Addr → Prop} (x : Ext Z H H') (z : ∀ a, Z a → Z' a) : ∀ {m : Md} {v : V} {d : D} {fp : List Addr}, Own H Z m v d fp → (∀ a ∈ fp, H' a = H a) → Own H' Z' m v d fp
  | .F, _, _, _, ⟨h, e⟩, _ => ⟨h.mono x z, e⟩
  | .O m, v, d, fp, ⟨a, fs, e1, e2, h⟩, k => by
    subst e2
    have ka := k a (List.mem_cons_self ..)
    have ks : ∀ b ∈ fs, H' b = H b := fun b hb => k b (List.mem_cons_of_mem _ hb)
    refine ⟨a, fs, e1, rfl, ?_⟩
    rcases h with ⟨xs, ds, h1, h2, h3⟩ | ⟨xs, ds, h1, h2, h3⟩ | ⟨xs, ds, n, h1, h2, h3⟩
    · exact .inl ⟨xs, ds, ka.trans h1, h2, h3.imp fun v d f p q => p.mono x z fun b hb => ks b (q b hb)⟩
    · exact .inr (.inl ⟨xs, ds, ka.trans h1, h2, h3.imp fun v d f p q => p.mono x z fun b hb => ks b (q b hb)⟩)
    · exact .inr (.inr ⟨xs, ds, n, ka.trans h1, h2, h3.imp fun v d f p q => p.mono x z fun b hb => ks b (q b hb)⟩)
theorem OwnR.mono {H H' : Hp} {Z Z' : Addr → Prop} (x : Ext Z H H') (z : ∀ a, Z a → Z' a) : ∀ {rs : List Root} {fp : List Addr}, OwnR H Z rs fp → (∀ a ∈ fp, H' a = H a) → OwnR H' Z' rs fp
  | _, _, .nil, _ => .nil
  | _, _, .cons h t, k => .cons (h.mono x z fun a m => k a (List.mem_append_left _ m)) (OwnR.mono x z t fun a m => k a (List.mem_append_right _ m))
/-- what is owned is a list or a dict -/
def mut1 : HO → Bool
  | .lst _ => true
  | .dK _ => true
  | .dT _ => true
  | _ => false
theorem OwnA.mem {P : V → D → List Addr → Prop} {R : Addr → Prop} (k : ∀ v d f, P v d f → ∀ a ∈ f, R a) : ∀ {vs : List V} {ds : List D} {fp : List Addr}, OwnA P vs ds fp → ∀ a ∈ fp, R a
  | _, _, _, .nil => fun _ h => nomatch h
  | _, _, _, .cons h t => fun a m => (List.mem_append.mp m).elim (k _ _ _ h a) (OwnA.mem k t a)
theorem OwnE.mem {P : V → D → List Addr → Prop} {R : Addr → Prop} (k : ∀ v d f, P v d f → ∀ a ∈ f, R a) : ∀ {vs : List (D × V)} {ds : List (D × D)} {fp : List Addr}, OwnE P vs ds fp → ∀ a ∈ fp, R a
  | _, _, _, .nil => fun _ h => nomatch h
  | _, _, _, .cons h t => fun a m => (List.mem_append.mp m).elim (k _ _ _ h a) (OwnE.mem k t a)
theorem Own.at {H : Hp} {Z : Addr → Prop} : ∀ {m : Md} {v : V} {d : D} {fp : List Addr}, Own H Z m v d fp → ∀ a ∈ fp, ∃ o, H a = some o ∧ mut1 o = true
  | .F, _, _, _, ⟨_, e⟩ => fun a h => by subst e; cases h
  | .O m, v, d, fp, ⟨a, fs, e1, e2, h⟩ => fun b hb => by
    subst e2
    rcases List.mem_cons.mp hb with rfl | hb
    · rcases h with ⟨xs, ds, h1, _⟩ | ⟨xs, ds, h1, _⟩ | ⟨xs, ds, _, h1, _⟩ <;> exact ⟨_, h1, rfl⟩
    · rcases h with ⟨xs, ds, h1, h2, h3⟩ | ⟨xs, ds, h1, h2, h3⟩ | ⟨xs, ds, _, h1, h2, h3⟩
      · exact h3.mem (R := fun a => ∃ o, H a = some o ∧ mut1 o = true) (fun v d f p => p.at) b hb
      · exact h3.mem (R := fun a => ∃ o, H a = some o ∧ mut1 o = true) (fun v d f p => p.at) b hb
      · exact h3.mem (R := fun a => ∃ o, H a = some o ∧ mut1 o = true) (fun v d f p => p.at) b hb
theorem OwnR.at {H : Hp} {Z : Addr → Prop} : ∀ {rs : List Root} {fp : List Addr}, OwnR H Z rs fp → ∀ a ∈ fp, ∃ o, H a = some o ∧ mut1 o = true
  | _, _, .nil => fun _ h => nomatch h
  | _, _, .cons h t => fun a m => (List.mem_append.mp m).elim (h.at a) (OwnR.at t a)

/-! ### freezing -/
theorem rdA_of {H : Hp} {Z : Addr → Prop} {P : V → D → List Addr → Prop} : ∀ {vs : List V} {ds : List D} {fp : List Addr}, OwnA P vs ds fp → (∀ v d f, P v d f → (∀ a ∈ f, a ∈ fp) → Rd H Z v d) → RdA H Z vs ds
  | _, _, _, .nil, _ => .nil
  | _, _, _, .cons h t, k => .cons (k _ _ _ h fun _ m => List.mem_append_left _ m) (rdA_of t fun v d f p q => k v d f p fun a m => List.mem_append_right _ (q a m))
theorem rdE_of {H : Hp} {Z : Addr → Prop} {P : V → D → List Addr → Prop} : ∀ {vs : List (D × V)} {ds : List (D × D)} {fp : List Addr}, OwnE P vs ds fp → (∀ v d f, P v d f → (∀ a ∈ f, a ∈ fp) → Rd H Z v d) → RdE H Z vs ds
  | _, _, _, .nil, _ => .nil
  | _, _, _, .cons h t, k => .cons (k _ _ _ h fun _ m => List.mem_append_left _ m) (rdE_of t fun v d f p q => k v d f p fun a m => List.mem_append_right _ (q a m))
theorem Ext.refl {Z : Addr → Prop} {H : Hp} : Ext Z H H := fun _ _ e _ => e
theorem Own.rd {H : Hp} {Z Z' : Addr → Prop} (z : ∀ a, Z a → Z' a) : ∀ {m : Md} {v : V} {d : D} {fp : List Addr}, Own H Z m v d fp → (∀ a ∈ fp, Z' a) → Rd H Z' v d
  | .F, _, _, _, ⟨h, _⟩, _ => h.mono Ext.refl z
  | .O m, v, d, fp, ⟨a, fs, e1, e2, h⟩, k => by
    subst e2
    subst e1
    have ka := k a (List.mem_cons_self ..)
    have ks : ∀ b ∈ fs, Z' b := fun b hb => k b (List.mem_cons_of_mem _ hb)
    rcases h with ⟨xs, ds, h1, rfl, h3⟩ | ⟨xs, ds, h1, rfl, h3⟩ | ⟨xs, ds, n, h1, rfl, h3⟩
    · exact .lst (.inl ⟨ka, h1⟩) (rdA_of h3 fun v d f p q => p.rd z fun b hb => ks b (q b hb))
    · exact .dK ka h1 (rdE_of h3 fun v d f p q => p.rd z fun b hb => ks b (q b hb))
    · exact .dT ka n h1 (rdE_of h3 fun v d f p q => p.rd z fun b hb => ks b (q b hb))

/-! ### the roots' list -/
theorem OwnR.perm {H : Hp} {Z : Addr → Prop} {rs rs' : List Root} (p : rs.Perm rs') : ∀ {fp : List Addr}, OwnR H Z rs fp → ∃ fp', OwnR H Z rs' fp' ∧ fp.Perm fp' := by
  induction p with
  | nil => intro fp h; exact ⟨fp, h, .refl _⟩
  | cons x _ ih =>
    intro fp h
    cases h with
    | cons h t =>
      obtain ⟨g', t', q⟩ := ih t
      exact ⟨_, .cons h t', q.append_left _⟩
  | swap x y l =>
    intro fp h
    cases h with
    | @cons _ _ _ _ f1 _ h t =>
      cases t with
      | @cons _ _ _ _ f2 f3 h2 t =>
        refine ⟨f2 ++ (f1 ++ f3), .cons h2 (.cons h t), ?_⟩
        rw [← List.append_assoc, ← List.append_assoc]
        exact (List.perm_append_comm).append_right _
  | trans _ _ ih1 ih2 =>
    intro fp h
    obtain ⟨g, h1, q1⟩ := ih1 h
    obtain ⟨g', h2, q2⟩ := ih2 h1
    exact ⟨g', h2, q1.trans q2⟩
theorem Rep.perm {rs rs' : List Root} {H : Hp} (h : Rep rs H) (p : rs.Perm rs') : Rep rs' H := by
  obtain ⟨Z, fp, o, nd, off, dom⟩ := h
  obtain ⟨fp', o', q⟩ := o.perm p
  exact ⟨Z, fp', o', q.nodup_iff.mp nd, fun a m => off a (q.mem_iff.mpr m), dom⟩
theorem Rep.tail {r : Root} {rs : List Root} {H : Hp} (h : Rep (r :: rs) H) : Rep rs H := by
  obtain ⟨Z, fp, o, nd, off, dom⟩ := h
  cases o with
  | cons h t => exact ⟨Z, _, t, (List.nodup_append.mp nd).2.1, fun a m => off a (List.mem_append_right _ m), dom⟩
theorem Rep.nil {H : Hp} : Rep [] H := ⟨fun _ => False, [], .nil, .nil, (fun _ h => nomatch h), fun _ h => h.elim⟩
theorem Rep.drop : ∀ {rs rs' : List Root} {H : Hp}, Rep (rs ++ rs') H → Rep rs' H
  | [], _, _, h => h
  | _ :: _, _, _, h => Rep.drop h.tail
theorem Rep.sub {rs rs' more : List Root} {H : Hp} (h : Rep rs H) (p : rs.Perm (more ++ rs')) : Rep rs' H := (h.perm p).drop
/-- an owned root is let go: frozen -/
theorem Rep.freeze {v : V} {d : D} {m : Md} {rs : List Root} {H : Hp} (h : Rep ((v, d, m) :: rs) H) : Rep ((v, d, .F) :: rs) H := by
  obtain ⟨Z, fp, o, nd, off, dom⟩ := h
  cases o with
  | @cons _ _ _ _ f g h t =>
    obtain ⟨n1, n2, n3⟩ := List.nodup_append.mp nd
    refine ⟨fun a => Z a ∨ a ∈ f, [] ++ g, .cons ⟨h.rd (fun _ => .inl) (fun _ => .inr), rfl⟩ (t.mono Ext.refl (fun _ => .inl) fun _ _ => rfl), n2, fun a m z => ?_, fun a z => ?_⟩
    · rcases z with z | z
      · exact off a (List.mem_append_right _ m) z
      · exact n3 a z a m rfl
    · rcases z with z | z
      · exact dom a z
      · obtain ⟨o, e, _⟩ := h.at a z
        rw [e]
        exact fun q => nomatch q
/-- a flat value is a root -/
theorem Rep.cons_rd {v : V} {d : D} {rs : List Root} {H : Hp} (h : Rep rs H) (r : ∀ Z, Rd H Z v d) : Rep ((v, d, .F) :: rs) H := by
  obtain ⟨Z, fp, o, nd, off, dom⟩ := h
  exact ⟨Z, [] ++ fp, .cons ⟨r Z, rfl⟩ o, nd, off, dom⟩
theorem RepZ.cons_rd {v : V} {d : D} {rs : List Root} {H : Hp} {Z : Addr → Prop} {fp : List Addr} (h : RepZ rs H Z fp) (r : Rd H Z v d) : Rep ((v, d, .F) :: rs) H :=
  ⟨Z, [] ++ fp, .cons ⟨r, rfl⟩ h.own, h.nd, h.off, h.dom⟩
/-- a member root, as it is owned -/
theorem OwnR.get {H : Hp} {Z : Addr → Prop} : ∀ {rs : List Root} {fp : List Addr}, OwnR H Z rs fp → ∀ {v : V} {d : D} {m : Md}, (v, d, m) ∈ rs → ∃ f, Own H Z m v d f ∧ ∀ a ∈ f, a ∈ fp
  | _, _, .nil, _, _, _, h => nomatch h
  | _, _, .cons h t, v, d, m, hm => by
    rcases List.mem_cons.mp hm with e | hm
    · cases e
      exact ⟨_, h, fun a q => List.mem_append_left _ q⟩
    · obtain ⟨f, h1, h2⟩ := OwnR.get t hm
      exact ⟨f, h1, fun a q => List.mem_append_right _ (h2 a q)⟩
/-- a new object: its footprint is itself -/
theorem ext_new {Z : Addr → Prop} {H : Hp} {p : Addr} {o : HO} (hp : H p = none) : Ext Z H (upd H p o) := fun a u e _ => by
  rw [upd_ne (ne_of_none e hp)]
  exact e
theorem RepZ.alloc {rs : List Root} {H : Hp} {Z : Addr → Prop} {fp : List Addr} (h : RepZ rs H Z fp) {p : Addr} {o : HO} (hp : H p = none) : RepZ rs (upd H p o) Z fp := by
  refine ⟨h.own.mono (ext_new hp) (fun _ z => z) fun a m => ?_, h.nd, h.off, fun a z => ?_⟩
  · obtain ⟨u, e, _⟩ := h.own.at a m
    exact upd_ne (ne_of_none e hp)
  · by_cases e : a = p
    · subst e; rw [upd_same]; exact fun q => nomatch q
    · rw [upd_ne e]; exact h.dom a z
theorem RepZ.push {rs : List Root} {H : Hp} {Z : Addr → Prop} {fp : List Addr} (h : RepZ rs H Z fp) {p : Addr} {o : HO} (hp : H p = none) {m : Md} {d : D}
    (w : Own (upd H p o) Z m (.ref p) d [p]) : Rep ((.ref p, d, m) :: rs) (upd H p o) := by
  have hz : ¬ Z p := fun z => h.dom p z hp
  have hf : p ∉ fp := fun m => by
    obtain ⟨u, e, _⟩ := h.own.at p m
    rw [hp] at e; cases e
  have h' := h.alloc (o := o) hp
  refine ⟨Z, [p] ++ fp, .cons w h'.own, List.nodup_cons.mpr ⟨hf, h.nd⟩, fun a m => ?_, h'.dom⟩
  rcases List.mem_cons.mp m with rfl | m
  · exact hz
  · exact h.off a m
end Dt
end
section
set_option Elab.async false
set_option linter.all false
set_option maxRecDepth 100000
set_option maxHeartbeats 2000000
/-! Own syntax and its meaning on pure data. -/
namespace Dt
open PySem PySem.Spec PyProof.Rows L2

/-- slots -/
abbrev Sl := List (Option D)
inductive Op where
  | add | sub | mul | fdiv | mod | pow | neg
  | eq | ne | lt | le | gt | ge | isIn | notIn | isN | notN | isB | notB
  | idx | slice | sliceL | sliceH | rev
  | len | int | abs | min2 | max2 | min1 | max1 | sum | sorted | list | tuple | repr | str | all | any
  | isInt | isBool | isTuple | isList | isStr | isSeq
  | count | index | range1 | range2 | get1 | get2
  deriving DecidableEq, Repr
/-- operations that change the object at a slot -/
inductive Mop where
  | append | extend | pop | popAt | set | augAdd | augSub | upd | remove
  deriving DecidableEq, Repr
/-- what a for walks -/
inductive Ik where
  | seq | range1 | range2 | range3 | enum | zip
  deriving DecidableEq, Repr
/-- targets -/
inductive Tg where
  | v (i : Nat)
  | nil
  | cons (a : Tg) (b : Tg)
  deriving DecidableEq, Repr
/-- expressions; argument lists are cons .. nil -/
inductive E where
  | var (i : Nat)
  | pk (i : Nat)
  | lnt (i : Nat)
  | non
  | bl (b : Bool)
  | int (i : Int)
  | str (x : Str)
  | nil
  | cons (a b : E)
  | op (o : Op) (fr : Bool) (as : E)
  | and (a b : E)
  | or (a b : E)
  | not (a : E)
  | ite (t a b : E)
  | tup (as : E)
  | lst (m : Md) (as : E)
  | dsp (ks : List Str) (as : E)
  | dnew (t : Bool)
  | call (f : Nat) (as : E)
  | mut (o : Mop) (i : Nat) (as : E)
  | mutI (o : Mop) (i : Nat) (k : E) (as : E)
  | lc (own : List Nat) (tg : Tg) (ik : Ik) (it : E) (c : E) (m : Md) (e : E)
  | lc2 (own : List Nat) (tg : Tg) (ik : Ik) (it : E) (c : E) (own1 : List Nat) (tg1 : Tg) (ik1 : Ik) (it1 : E) (c1 : E) (m : Md) (e : E)
  | dc (own : List Nat) (tg : Tg) (ik : Ik) (it : E) (c : E) (k : E) (e : E)
  | fld (i : Nat) (k : Nat)
  deriving Repr
/-- statements -/
inductive S where
  | skip
  | seq (a b : S)
  | frz (i : Nat)
  | fgt (i : Nat) (m : Md)
  | set (i : Nat) (e : E)
  | unp (tg : Tg) (e : E)
  | par (tg : Tg) (as : E)
  | put (o : Mop) (i : Nat) (k : E) (e : E)
  | putI (o : Mop) (i : Nat) (k k2 : E) (e : E)
  | aug (o : Op) (i : Nat) (e : E)
  | exp (e : E)
  | ret (e : E)
  | retN
  | ite (t : E) (a b : S)
  | for (tg : Tg) (ik : Ik) (it : E) (b : S)
  | whl (t : E) (b : S)
  | brk
  | cnt
  | raise (c : Nat) (as : E)
  | tri (b : S) (hs : S)
  | hnd (c : Nat) (i : Option Nat) (b : S) (r : S)
  deriving Repr

/-! ### keys -/
inductive KK where
  | k (x : Key)
  | t (xs : List Key)
  deriving DecidableEq
def toK : D → Option Key
  | .int i => some (.inl i)
  | .str x => some (.inr x)
  | _ => none
def toKs : List D → Option (List Key)
  | [] => some []
  | d :: ds => (toK d).bind fun k => (toKs ds).map fun ks => k :: ks
def toKK : D → Option KK
  | .tuple ds => (toKs ds).map .t
  | d => (toK d).map .k
def keyIsD (k : KK) (p : D × D) : Bool := decide (toKK p.1 = some k)
def dGet (es : List (D × D)) (k : KK) : Option D := (es.find? (keyIsD k)).map (·.2)
/-- the kind of a dict's keys: that of its first -/
def kindOk (es : List (D × D)) (k : KK) : Bool := match es, k with
  | [], .k _ => true
  | [], .t _ => false
  | (.tuple _, _) :: _, .t _ => true
  | (.tuple _, _) :: _, .k _ => false
  | _, .k _ => true
  | _, .t _ => false
def dPut (es : List (D × D)) (k : KK) (kd v : D) : List (D × D) :=
  if es.any (keyIsD k) then es.map fun p => if keyIsD k p then (p.1, v) else p else es ++ [(kd, v)]

/-! ### values -/
def ixD (n : Nat) (i : Int) : Option Nat := if 0 ≤ i then (if i < n then some i.toNat else none) else if -(n : Int) ≤ i then some (i + n).toNat else none
def atD {α : Type} (xs : List α) (i : Int) : Option α := (ixD xs.length i).bind fun j => xs[j]?
def dBool : Option Bool → Option D := Option.map .bool
def okD (d : D) : Bool := SeqAt.shaped d
def dEq (a b : D) : Option Bool := if okD a && okD b then some (PyData.eqv a b) else none
def isNone : D → Bool
  | .none => true
  | _ => false
def dLt : D → D → Option Bool
  | .int a, .int b => some (decide (a < b))
  | a, b => if okD a && okD b && W.alike a b && !isNone a then some (W.dataLt a b) else none
def dGt : D → D → Option Bool
  | .int a, .int b => some (decide (b < a))
  | a, b => if okD a && okD b && W.alike a b && !isNone a then some (W.dataLt b a) else none
def dLe : D → D → Option Bool
  | .int a, .int b => some (decide (a ≤ b))
  | _, _ => none
def listOf : D → Option (List D)
  | .list xs => some xs
  | .tuple xs => some xs
  | _ => none
def dIn (x : D) : D → Option Bool
  | .list xs => if okD x && okD (.list xs) then some (xs.any fun z => PyData.eqv z x) else none
  | .tuple xs => if okD x && okD (.tuple xs) then some (xs.any fun z => PyData.eqv z x) else none
  | .dict es => (toKK x).bind fun k => if kindOk es k then some (dGet es k).isSome else none
  | _ => none
def boolsOf : List D → Option (List Bool)
  | [] => some []
  | .bool b :: r => (boolsOf r).map (b :: ·)
  | _ :: _ => none
def intsOf : List D → Option (List Int)
  | [] => some []
  | .int b :: r => (intsOf r).map (b :: ·)
  | _ :: _ => none
def cutD {α : Type} (xs : List α) (lo hi : Option Int) : List α := (xs.drop (HT.sIx xs.length 0 lo)).take (HT.sIx xs.length xs.length hi - HT.sIx xs.length 0 lo)
def truthy : D → Option Bool
  | .none => some false
  | .bool b => some b
  | .int i => some (i != 0)
  | .str x => if x.length ≤ sizeLine then some (x.length != 0) else none
  | .list xs => some (!xs.isEmpty)
  | .tuple xs => some (!xs.isEmpty)
  | .dict _ => none
def rangeD (lo hi : Int) : List D := (List.range (hi - lo).toNat).map fun (i : Nat) => .int (lo + i)
def inR (i : Int) : Bool := decide (-(2 ^ 62) ≤ i) && decide (i < 2 ^ 62)
def alikeAll1 (xs : List D) : Bool := xs.all fun x => xs.all fun y => W.alike x y
def sortable1 (ds : List D) : Bool := (ds.all fun d => match d with | .tuple (_ :: _) => true | _ => false) || (ds.all fun d => match d with | .tuple _ => false | .none => false | _ => true)
def fAdd : D → D → Option D
  | .int a, .int b => some (.int (a + b))
  | .str x, .str y => if x.length + y.length ≤ sizeLine then some (.str (x ++ y)) else none
  | .list xs, .list ys => if xs.length + ys.length ≤ sizeLine then some (.list (xs ++ ys)) else none
  | .tuple xs, .tuple ys => if xs.length + ys.length ≤ sizeLine then some (.tuple (xs ++ ys)) else none
  | _, _ => none
def fSub : D → D → Option D
  | .int a, .int b => some (.int (a - b))
  | _, _ => none
def fMul : D → D → Option D
  | .int a, .int b => if (-(2 ^ 64) < a ∧ a < 2 ^ 64) ∨ (-(2 ^ 64) < b ∧ b < 2 ^ 64) then some (.int (a * b)) else none
  | .list xs, .int k => if -(2 ^ 63) ≤ k ∧ k < 2 ^ 63 ∧ xs.length * k.toNat ≤ sizeLine then some (.list (List.replicate k.toNat xs).flatten) else none
  | _, _ => none
def fDiv : D → D → Option D
  | .int a, .int b => if b ≠ 0 ∧ b.natAbs < 1073741824 then some (.int (a.fdiv b)) else none
  | _, _ => none
def fMod : D → D → Option D
  | .int a, .int b => if b ≠ 0 then some (.int (a.fmod b)) else none
  | _, _ => none
def fPow : D → D → Option D
  | .int a, .int b => if 0 ≤ b ∧ b ≤ 1000000 ∧ a.natAbs < 2 ^ 64 then some (.int (a ^ b.toNat)) else none
  | _, _ => none
def fNeg : D → Option D
  | .int a => some (.int (-a))
  | _ => none
def fIsB : D → D → Option Bool
  | .bool a, .bool b => some (a == b)
  | _, _ => none
def fIdx : D → D → Option D
  | .list xs, .int i => atD xs i
  | .tuple xs, .int i => atD xs i
  | .dict es, k => (toKK k).bind fun k => if kindOk es k then dGet es k else none
  | _, _ => none
def cutsD (x : D) (lo hi : Option Int) : Option D := match x with
  | .list xs => some (.list (cutD xs lo hi))
  | .tuple xs => some (.tuple (cutD xs lo hi))
  | _ => none
def fSlice : D → D → D → Option D
  | x, .int lo, .int hi => cutsD x (some lo) (some hi)
  | _, _, _ => none
def fSliceL : D → D → Option D
  | x, .int lo => cutsD x (some lo) none
  | _, _ => none
def fSliceH : D → D → Option D
  | x, .int hi => cutsD x none (some hi)
  | _, _ => none
def fRev : D → Option D
  | .list xs => some (.list xs.reverse)
  | .tuple xs => some (.tuple xs.reverse)
  | _ => none
def fLen : D → Option D
  | .list xs => some (.int xs.length)
  | .tuple xs => some (.int xs.length)
  | .dict es => some (.int es.length)
  | .str x => if x.length ≤ sizeLine then some (.int x.length) else none
  | _ => none
def fInt : D → Option D
  | .int i => some (.int i)
  | .bool b => some (.int (if b then 1 else 0))
  | _ => none
def fAbs : D → Option D
  | .int i => some (.int (if i < 0 then -i else i))
  | _ => none
def fMin2 : D → D → Option D
  | .int i, .int j => some (.int (if j < i then j else i))
  | _, _ => none
def fMax2 : D → D → Option D
  | .int i, .int j => some (.int (if j > i then j else i))
  | _, _ => none
def canOrd (xs : List D) : Bool := okD (.list xs) && alikeAll1 xs && xs.all (fun y => !isNone y)
def fMin1 : D → Option D
  | .list (x :: r) => if canOrd (x :: r) then some (W.minD x r) else none
  | .tuple (x :: r) => if canOrd (x :: r) then some (W.minD x r) else none
  | _ => none
def fMax1 : D → Option D
  | .list (x :: r) => if canOrd (x :: r) then some (W.maxD x r) else none
  | .tuple (x :: r) => if canOrd (x :: r) then some (W.maxD x r) else none
  | _ => none
def fSum : D → Option D
  | .list xs => (intsOf xs).map fun ns => .int ns.sum
  | _ => none
def fSorted : D → Option D
  | .list xs => if okD (.list xs) && alikeAll1 xs && sortable1 xs && decide (xs.length ≤ sizeLine) then some (.list (xs.mergeSort (W.dataLe false id))) else none
  | _ => none
def fList : D → Option D
  | .list xs => some (.list xs)
  | .tuple xs => some (.list xs)
  | _ => none
def fTuple : D → Option D
  | .list xs => some (.tuple xs)
  | .tuple xs => some (.tuple xs)
  | _ => none
def fRepr (d : D) : Option D := if okD d && d.showable && decide (d.shown.length ≤ sizeLine) then some (.str d.shown) else none
def fAll : D → Option D
  | .list xs => (boolsOf xs).map fun bs => .bool (bs.all id)
  | _ => none
def fAny : D → Option D
  | .list xs => (boolsOf xs).map fun bs => .bool (bs.any id)
  | _ => none
def isIntD : D → Bool
  | .int _ => true
  | .bool _ => true
  | _ => false
def isBoolD : D → Bool
  | .bool _ => true
  | _ => false
def isTupleD : D → Bool
  | .tuple _ => true
  | _ => false
def isListD : D → Bool
  | .list _ => true
  | _ => false
def isStrD : D → Bool
  | .str _ => true
  | _ => false
def fRange1 : D → Option D
  | .int n => if inR n && decide (n.toNat ≤ 2 ^ 24) then some (.list (rangeD 0 n)) else none
  | _ => none
def fRange2 : D → D → Option D
  | .int a, .int b => if inR a && inR b && decide ((b - a).toNat ≤ 2 ^ 24) then some (.list (rangeD a b)) else none
  | _, _ => none
def opF (o : Op) (ds : List D) : Option D := match ds with
  | [a] => (match o with
    | .neg => fNeg a
    | .isN => some (.bool (isNone a))
    | .notN => some (.bool (!isNone a))
    | .rev => fRev a
    | .len => fLen a
    | .int => fInt a
    | .abs => fAbs a
    | .min1 => fMin1 a
    | .max1 => fMax1 a
    | .sum => fSum a
    | .sorted => fSorted a
    | .list => fList a
    | .tuple => fTuple a
    | .repr => fRepr a
    | .all => fAll a
    | .any => fAny a
    | .isInt => some (.bool (isIntD a))
    | .isBool => some (.bool (isBoolD a))
    | .isTuple => some (.bool (isTupleD a))
    | .isList => some (.bool (isListD a))
    | .isStr => some (.bool (isStrD a))
    | .range1 => fRange1 a
    | _ => none)
  | [a, b] => (match o with
    | .add => fAdd a b
    | .sub => fSub a b
    | .mul => fMul a b
    | .fdiv => fDiv a b
    | .mod => fMod a b
    | .pow => fPow a b
    | .eq => dBool (dEq a b)
    | .ne => dBool ((dEq a b).map (!·))
    | .lt => dBool (dLt a b)
    | .gt => dBool (dGt a b)
    | .le => dBool (dLe a b)
    | .ge => dBool (dLe b a)
    | .isIn => dBool (dIn a b)
    | .notIn => dBool ((dIn a b).map (!·))
    | .isB => dBool (fIsB a b)
    | .notB => dBool ((fIsB a b).map (!·))
    | .idx => fIdx a b
    | .sliceL => fSliceL a b
    | .sliceH => fSliceH a b
    | .min2 => fMin2 a b
    | .max2 => fMax2 a b
    | .range2 => fRange2 a b
    | _ => none)
  | [a, b, c] => (match o with
    | .slice => fSlice a b c
    | _ => none)
  | _ => none
/-- results that are new lists -/
def frD : Op → D → Bool
  | .add, .list _ => true
  | .mul, .list _ => true
  | .slice, .list _ => true
  | .sliceL, .list _ => true
  | .sliceH, .list _ => true
  | .rev, .list _ => true
  | .sorted, .list _ => true
  | .list, .list _ => true
  | .range1, .list _ => true
  | .range2, .list _ => true
  | _, _ => false
def opR (o : Op) (fr : Bool) (ds : List D) : Option D := (opF o ds).bind fun d => if fr then (if frD o d then some d else none) else some d
/-- the receiver, the arguments; the answer, the receiver behind it -/
def mopF : Mop → D → List D → Option (D × D)
  | .append, .list xs, [d] => if xs.length < sizeLine then some (.none, .list (xs ++ [d])) else none
  | .extend, .list xs, [.list ys] => if xs.length + ys.length ≤ sizeLine then some (.none, .list (xs ++ ys)) else none
  | .pop, .list xs, [] => (xs[xs.length - 1]?).map fun y => (y, .list xs.dropLast)
  | .popAt, .list xs, [.int i] => if -(2 ^ 63) ≤ i ∧ i < 2 ^ 63 then (ixD xs.length i).bind fun k => xs[k]?.map fun y => (y, .list (xs.eraseIdx k)) else none
  | .set, .list xs, [.int i, d] => (ixD xs.length i).map fun j => (.none, .list (xs.set j d))
  | .set, .dict es, [k, d] => (toK k).bind fun y => if es.length < sizeLine ∧ kindOk es (.k y) = true then some (.none, .dict (dPut es (.k y) k d)) else none
  | .augAdd, .list xs, [.int i, .int b] => (ixD xs.length i).bind fun j => match xs[j]? with
    | some (.int a) => some (.none, .list (xs.set j (.int (a + b))))
    | _ => none
  | .augSub, .list xs, [.int i, .int b] => (ixD xs.length i).bind fun j => match xs[j]? with
    | some (.int a) => some (.none, .list (xs.set j (.int (a - b))))
    | _ => none
  | _, _, _ => none

/-! ### the meaning -/
inductive Out (α : Type) where
  | ok (a : α) (σ : Sl)
  | exc (c : Nat) (fs : List D) (σ : Sl)
  | bad
def Out.bind {α β : Type} (x : Out α) (f : α → Sl → Out β) : Out β := match x with
  | .ok a σ => f a σ
  | .exc c fs σ => .exc c fs σ
  | .bad => .bad
inductive Res where
  | ret (d : D) (ls : List D)
  | exc (c : Nat) (fs : List D) (ls : List D)
  | bad
inductive SOut where
  | nx (σ : Sl)
  | ret (d : D) (σ : Sl)
  | brk (σ : Sl)
  | cnt (σ : Sl)
  | exc (c : Nat) (fs : List D) (σ : Sl)
  | bad
def rdS (σ : Sl) (i : Nat) : Option D := (σ[i]?).join
def ofO {α : Type} (o : Option α) (σ : Sl) : Out α := match o with
  | some a => .ok a σ
  | none => .bad
/-- the slots that are lent by an argument list -/
def lnts : E → List Nat
  | .cons (.lnt i) r => i :: lnts r
  | .cons _ r => lnts r
  | _ => []
def back : List Nat → List D → Sl → Option Sl
  | [], [], σ => some σ
  | i :: is, d :: ds, σ => back is ds (σ.set i (some d))
  | _, _, _ => none
def asgT : Tg → D → Sl → Option Sl
  | .v i, d, σ => some (σ.set i (some d))
  | .nil, .tuple [], σ => some σ
  | .cons a b, .tuple (d :: ds), σ => (asgT a d σ).bind fun σ => asgT b (.tuple ds) σ
  | _, _, _ => none
def wipeD (σ : Sl) : List Nat → Sl
  | [] => σ
  | i :: is => (wipeD σ is).set i none
def itR1 : D → Option (List D)
  | .int n => if inR n then some (rangeD 0 n) else none
  | _ => none
def itR2 : D → D → Option (List D)
  | .int a, .int b => if inR a && inR b then some (rangeD a b) else none
  | _, _ => none
def itEn : D → Option (List D)
  | .list xs => some (xs.zipIdx.map fun p => .tuple [.int (p.2 : Nat), p.1])
  | _ => none
def itZp : D → D → Option (List D)
  | .list xs, .list ys => some ((xs.zip ys).map fun p => .tuple [p.1, p.2])
  | .tuple xs, .tuple ys => some ((xs.zip ys).map fun p => .tuple [p.1, p.2])
  | _, _ => none
def itemsF (ik : Ik) (ds : List D) : Option (List D) := match ds with
  | [a] => (match ik with
    | .seq => listOf a
    | .range1 => itR1 a
    | .enum => itEn a
    | _ => none)
  | [a, b] => (match ik with
    | .range2 => itR2 a b
    | .zip => itZp a b
    | _ => none)
  | _ => none
/-- the comprehension's turns: the slots in, what is made so far -/
def loopG {α : Type} (f : D → α → Sl → Out α) : List D → α → Sl → Out α
  | [], acc, σ => .ok acc σ
  | d :: ds, acc, σ => (f d acc σ).bind fun acc σ => loopG f ds acc σ
def noX {α : Type} : Out α → Out α
  | .exc _ _ _ => .bad
  | x => x
abbrev Fns := Nat → List D → Res
/-- what a body may use: the functions, a bound of while's turns, which class is under which -/
structure Ev where
  F : Fns
  wf : Nat
  sub : Nat → Nat → Bool
def callO (F : Fns) (f : Nat) (is : List Nat) (ds : List D) (σ : Sl) : Out D := match F f ds with
  | .ret d ls => (match back is ls σ with
    | some σ' => .ok d σ'
    | none => .bad)
  | .exc c fs ls => (match back is ls σ with
    | some σ' => .exc c fs σ'
    | none => .bad)
  | .bad => .bad
def mutO (o : Mop) (i : Nat) (ds : List D) (σ : Sl) : Out D := match rdS σ i with
  | some r => (match mopF o r ds with
    | some (x, r') => .ok x (σ.set i (some r'))
    | none => .bad)
  | none => .bad
/-- the same of the item k of the list at a slot -/
def mutIO (o : Mop) (i : Nat) (k : D) (ds : List D) (σ : Sl) : Out D := match rdS σ i, k with
  | some (.list xs), .int z => (match ixD xs.length z with
    | some j => (match xs[j]? with
      | some c => (match mopF o c ds with
        | some (x, c') => .ok x (σ.set i (some (.list (xs.set j c'))))
        | none => .bad)
      | none => .bad)
    | none => .bad)
  | _, _ => .bad
def isLs (σ : Sl) (i : Nat) : Bool := match rdS σ i with
  | some (.list _) => true
  | _ => false
def fldO (i k : Nat) (σ : Sl) : Out D := match rdS σ i with
  | some (.tuple (_ :: fs)) => ofO fs[k]? σ
  | _ => .bad
/-- a turn of a comprehension -/
def turnG {α : Type} (own : List Nat) (tg : Tg) (c : Sl → Out Bool) (e : α → Sl → Out α) (d : D) (acc : α) (σ : Sl) : Out α :=
  match asgT tg d (wipeD σ own) with
  | some σ => (noX (c σ)).bind fun b σ => if b then noX (e acc σ) else .ok acc σ
  | none => .bad
def app1 (e : Sl → Out D) (acc : List D) (σ : Sl) : Out (List D) := (e σ).bind fun x σ => if acc.length < sizeLine then .ok (acc ++ [x]) σ else .bad
def put1 (k e : Sl → Out D) (acc : List (D × D)) (σ : Sl) : Out (List (D × D)) := (k σ).bind fun kd σ => (e σ).bind fun v σ => match toKK kd with
  | some (.k x) => if acc.length < sizeLine ∧ kindOk acc (.k x) = true then .ok (dPut acc (.k x) kd v) σ else .bad
  | _ => .bad
def runG {α : Type} (own : List Nat) (dat : α → D) (f : D → α → Sl → Out α) (acc : α) (items : List D) (σ : Sl) : Out D :=
  match noX (loopG f items acc σ) with
  | .ok acc σ' => .ok (dat acc) (wipeD σ' own)
  | _ => .bad
def items1 (ik : Ik) (ds : List D) (σ : Sl) : Out (List D) := ofO (itemsF ik ds) σ
mutual
def evE (V : Ev) : E → Sl → Out D
  | .var i, σ => ofO (rdS σ i) σ
  | .pk i, σ => ofO (rdS σ i) σ
  | .non, σ => .ok .none σ
  | .bl b, σ => .ok (.bool b) σ
  | .int i, σ => .ok (.int i) σ
  | .str x, σ => .ok (.str x) σ
  | .op o fr as, σ => (evL V as σ).bind fun ds σ => ofO (opR o fr ds) σ
  | .and a b, σ => (evE V a σ).bind fun x σ => match x with
    | .bool true => evE V b σ
    | .bool false => .ok (.bool false) σ
    | _ => .bad
  | .or a b, σ => (evE V a σ).bind fun x σ => match x with
    | .bool true => .ok (.bool true) σ
    | .bool false => evE V b σ
    | _ => .bad
  | .not a, σ => (evE V a σ).bind fun x σ => match x with
    | .bool b => .ok (.bool (!b)) σ
    | _ => .bad
  | .ite t a b, σ => (evT V t σ).bind fun c σ => if c then evE V a σ else evE V b σ
  | .tup as, σ => (evL V as σ).bind fun ds σ => if ds.length ≤ sizeLine then .ok (.tuple ds) σ else .bad
  | .lst _ as, σ => (evL V as σ).bind fun ds σ => if ds.length ≤ sizeLine then .ok (.list ds) σ else .bad
  | .dsp ks as, σ => (evL V as σ).bind fun ds σ => if ks.length = ds.length then .ok (.dict ((ks.map .str).zip ds)) σ else .bad
  | .dnew _, σ => .ok (.dict []) σ
  | .call f as, σ => (evL V as σ).bind fun ds σ => callO V.F f (lnts as) ds σ
  | .mut o i as, σ => if isLs σ i then (evL V as σ).bind fun ds σ => mutO o i ds σ else .bad
  | .mutI o i k as, σ => (evE V k σ).bind fun kd σ => (evL V as σ).bind fun ds σ => mutIO o i kd ds σ
  | .lc own tg ik it c _ e, σ => ((evL V it σ).bind fun ds σ => items1 ik ds σ).bind fun items σ =>
      runG own .list (turnG own tg (evT V c) (app1 (evE V e))) [] items σ
  | .lc2 own tg ik it c own1 tg1 ik1 it1 c1 _ e, σ => ((evL V it σ).bind fun ds σ => items1 ik ds σ).bind fun items σ =>
      runG own .list (turnG own tg (evT V c) fun acc σ => ((evL V it1 σ).bind fun ds σ => items1 ik1 ds σ).bind fun items1 σ =>
        (loopG (turnG own1 tg1 (evT V c1) (app1 (evE V e))) items1 acc σ).bind fun acc σ => .ok acc (wipeD σ own1)) [] items σ
  | .dc own tg ik it c k e, σ => ((evL V it σ).bind fun ds σ => items1 ik ds σ).bind fun items σ =>
      runG own .dict (turnG own tg (evT V c) (put1 (evE V k) (evE V e))) [] items σ
  | .fld i k, σ => fldO i k σ
  | .lnt _, _ => .bad
  | .nil, _ => .bad
  | .cons _ _, _ => .bad
def evT (V : Ev) : E → Sl → Out Bool
  | .and a b, σ => (evT V a σ).bind fun c σ => if c then evT V b σ else .ok false σ
  | .or a b, σ => (evT V a σ).bind fun c σ => if c then .ok true σ else evT V b σ
  | .not a, σ => (evT V a σ).bind fun c σ => .ok (!c) σ
  | e, σ => (evE V e σ).bind fun d σ => ofO (truthy d) σ
def evL (V : Ev) : E → Sl → Out (List D)
  | .nil, σ => .ok [] σ
  | .cons (.pk i) r, σ => if (rdS σ i).isSome then (evL V r σ).bind fun ds σ => (ofO (rdS σ i) σ).bind fun d σ => .ok (d :: ds) σ else .bad
  | .cons (.lnt i) r, σ => if (rdS σ i).isSome then (evL V r σ).bind fun ds σ => (ofO (rdS σ i) σ).bind fun d σ => .ok (d :: ds) σ else .bad
  | .cons a r, σ => (evE V a σ).bind fun d σ => (evL V r σ).bind fun ds σ => .ok (d :: ds) σ
  | _, _ => .bad
end
def SOut.ofE {α : Type} (x : Out α) (f : α → Sl → SOut) : SOut := match x with
  | .ok a σ => f a σ
  | .exc c fs σ => .exc c fs σ
  | .bad => .bad
def SOut.next (x : SOut) (f : Sl → SOut) : SOut := match x with
  | .nx σ => f σ
  | x => x
/-- a for's turns -/
def forLoop (f : D → Sl → SOut) : List D → Sl → SOut
  | [], σ => .nx σ
  | d :: ds, σ => match f d σ with
    | .nx σ => forLoop f ds σ
    | .cnt σ => forLoop f ds σ
    | .brk σ => .nx σ
    | x => x
def whlLoop (t : Sl → Out Bool) (f : Sl → SOut) : Nat → Sl → SOut
  | 0, _ => .bad
  | n + 1, σ => SOut.ofE (t σ) fun c σ => if c then (match f σ with
    | .nx σ => whlLoop t f n σ
    | .cnt σ => whlLoop t f n σ
    | .brk σ => .nx σ
    | x => x) else .nx σ
def augF : Op → D → D → Option D
  | .add, .int a, .int b => some (.int (a + b))
  | .sub, .int a, .int b => some (.int (a - b))
  | _, _, _ => none
def noXS : SOut → SOut
  | .exc _ _ _ => .bad
  | x => x
/-- behind a suite its name is gone -/
def goneS (i : Option Nat) (x : SOut) : SOut := match i with
  | none => x
  | some i => match x with
    | .nx σ => .nx (σ.set i none)
    | .brk σ => .brk (σ.set i none)
    | .cnt σ => .cnt (σ.set i none)
    | .ret d σ => .ret d (σ.set i none)
    | x => x
def setX (i : Option Nat) (c : Nat) (fs : List D) (σ : Sl) : Sl := match i with
  | none => σ
  | some i => σ.set i (some (.tuple (.int c :: fs)))
mutual
def evS (V : Ev) : S → Sl → SOut
  | .skip, σ => .nx σ
  | .seq a b, σ => (evS V a σ).next fun σ => evS V b σ
  | .frz _, σ => .nx σ
  | .fgt i _, σ => .nx (σ.set i none)
  | .set i e, σ => SOut.ofE (evE V e σ) fun d σ => .nx (σ.set i (some d))
  | .unp tg e, σ => SOut.ofE (evE V e σ) fun d σ => (match asgT tg d σ with
    | some σ => .nx σ
    | none => .bad)
  | .par tg as, σ => SOut.ofE (evL V as σ) fun ds σ => (match asgT tg (.tuple ds) σ with
    | some σ => .nx σ
    | none => .bad)
  | .put o i k e, σ => (match o with
    | .set => SOut.ofE (evE V e σ) fun d σ => if (rdS σ i).isSome then SOut.ofE (evE V k σ) fun kd σ => SOut.ofE (mutO o i [kd, d] σ) fun _ σ => .nx σ else .bad
    | o => if (rdS σ i).isSome then SOut.ofE (evE V k σ) fun kd σ => SOut.ofE (evE V e σ) fun d σ => SOut.ofE (mutO o i [kd, d] σ) fun _ σ => .nx σ else .bad)
  | .putI o i k k2 e, σ => SOut.ofE (evE V e σ) fun d σ => SOut.ofE (evE V k σ) fun kd σ => SOut.ofE (evE V k2 σ) fun kd2 σ => SOut.ofE (mutIO o i kd [kd2, d] σ) fun _ σ => .nx σ
  | .aug o i e, σ => if (rdS σ i).isSome then SOut.ofE (evE V e σ) fun d σ => SOut.ofE (ofO ((rdS σ i).bind fun x => augF o x d) σ) fun y σ => .nx (σ.set i (some y)) else .bad
  | .exp e, σ => SOut.ofE (evE V e σ) fun _ σ => .nx σ
  | .ret e, σ => SOut.ofE (evE V e σ) fun d σ => .ret d σ
  | .retN, σ => .ret .none σ
  | .ite t a b, σ => SOut.ofE (evT V t σ) fun c σ => if c then evS V a σ else evS V b σ
  | .for tg ik it b, σ => SOut.ofE (evL V it σ) fun ds σ => SOut.ofE (items1 ik ds σ) fun items σ =>
      forLoop (fun d σ => match asgT tg d σ with
        | some σ => evS V b σ
        | none => .bad) items σ
  | .whl t b, σ => whlLoop (evT V t) (evS V b) V.wf σ
  | .brk, σ => .brk σ
  | .cnt, σ => .cnt σ
  | .raise c as, σ => SOut.ofE (evL V as σ) fun ds σ => .exc c ds σ
  | .tri b hs, σ => (match evS V b σ with
    | .exc c fs σ => evH V hs c fs σ
    | x => x)
  | .hnd _ _ _ _, _ => .bad
/-- the clauses -/
def evH (V : Ev) : S → Nat → List D → Sl → SOut
  | .hnd c0 i b r, c, fs, σ => if V.sub c c0 then goneS i (noXS (evS V b (setX i c fs σ))) else evH V r c fs σ
  | _, c, fs, σ => .exc c fs σ
end
/-- a def: its parameters' number, those that are lent, its slots, its body -/
structure Fn where
  np : Nat
  ln : List Nat
  ns : Nat
  rm : Md
  body : S
def readAll : List Nat → Sl → Option (List D)
  | [], _ => some []
  | i :: is, σ => (rdS σ i).bind fun d => (readAll is σ).map (d :: ·)
def endF (ln : List Nat) (x : SOut) : Res := match x with
  | .nx σ => (match readAll ln σ with
    | some ls => .ret .none ls
    | none => .bad)
  | .ret d σ => (match readAll ln σ with
    | some ls => .ret d ls
    | none => .bad)
  | .exc c fs σ => (match readAll ln σ with
    | some ls => .exc c fs ls
    | none => .bad)
  | _ => .bad
def start0 (ns : Nat) (ds : List D) : Sl := ds.map some ++ List.replicate (ns - ds.length) none
/-- the program: its defs, run k deep -/
structure Prg where
  fns : List Fn
  sub : Nat → Nat → Bool
def run (P : Prg) (wf : Nat) : Nat → Fns
  | 0, _, _ => .bad
  | k + 1, f, ds => match P.fns[f]? with
    | some d => if ds.length = d.np then endF d.ln (evS ⟨run P wf k, wf, P.sub⟩ d.body (start0 d.ns ds)) else .bad
    | none => .bad
end Dt
end
section
set_option Elab.async false
set_option linter.all false
set_option maxRecDepth 100000
set_option maxHeartbeats 2000000
/-! The slots as roots; what a reading means over them. -/
namespace Dt
open PySem PySem.Spec PyProof.Rows L2

inductive SR : List Md → L2.St → Sl → List Root → Prop
  | nil : SR [] [] [] []
  | live {m : Md} {md : List Md} {v : V} {σ : L2.St} {d : D} {en : Sl} {rs : List Root} : SR md σ en rs → SR (m :: md) (some v :: σ) (some d :: en) ((v, d, m) :: rs)
  | dead {m : Md} {md : List Md} {o : Option V} {σ : L2.St} {en : Sl} {rs : List Root} : SR md σ en rs → SR (m :: md) (o :: σ) (none :: en) rs
theorem SR.len {md : List Md} {σ : L2.St} {en : Sl} {rs : List Root} (h : SR md σ en rs) : σ.length = md.length ∧ en.length = md.length := by
  induction h with
  | nil => exact ⟨rfl, rfl⟩
  | live _ ih => exact ⟨congrArg (· + 1) ih.1, congrArg (· + 1) ih.2⟩
  | dead _ ih => exact ⟨congrArg (· + 1) ih.1, congrArg (· + 1) ih.2⟩
theorem rdS_cons {o : Option D} {en : Sl} {i : Nat} : rdS (o :: en) (i + 1) = rdS en i := rfl
theorem rdS_zero {o : Option D} {en : Sl} : rdS (o :: en) 0 = o := rfl
theorem SR.get {md : List Md} {σ : L2.St} {en : Sl} {rs : List Root} (h : SR md σ en rs) : ∀ {i : Nat} {d : D}, rdS en i = some d → ∃ v m, σ[i]? = some (some v) ∧ md[i]? = some m ∧ (v, d, m) ∈ rs := by
  induction h with
  | nil => intro i d e; cases e
  | @live m md v σ d en rs _ ih =>
    intro i d' e
    cases i with
    | zero => rw [rdS_zero] at e; cases e; exact ⟨v, m, rfl, rfl, List.mem_cons_self ..⟩
    | succ i =>
      rw [rdS_cons] at e
      obtain ⟨v', m', h1, h2, h3⟩ := ih e
      exact ⟨v', m', h1, h2, List.mem_cons_of_mem _ h3⟩
  | @dead m md o σ en rs _ ih =>
    intro i d' e
    cases i with
    | zero => rw [rdS_zero] at e; cases e
    | succ i => rw [rdS_cons] at e; exact ih e
/-- a live slot's root by itself; what the slot may hold instead -/
theorem SR.take {md : List Md} {σ : L2.St} {en : Sl} {rs : List Root} (h : SR md σ en rs) : ∀ {i : Nat} {d : D}, rdS en i = some d →
    ∃ v m rs', σ[i]? = some (some v) ∧ md[i]? = some m ∧ rs.Perm ((v, d, m) :: rs') ∧ SR md σ (en.set i none) rs' ∧
      ∀ d', ∃ rs'', SR md σ (en.set i (some d')) rs'' ∧ rs''.Perm ((v, d', m) :: rs') := by
  induction h with
  | nil => intro i d e; cases e
  | @live m md v σ d en rs h ih =>
    intro i d' e
    cases i with
    | zero => rw [rdS_zero] at e; cases e; exact ⟨v, m, rs, rfl, rfl, .refl _, .dead h, fun d' => ⟨_, .live h, .refl _⟩⟩
    | succ i =>
      rw [rdS_cons] at e
      obtain ⟨v', m', rs', h1, h2, h3, h4, h5⟩ := ih e
      refine ⟨v', m', (v, d, m) :: rs', h1, h2, (h3.cons _).trans (.swap _ _ _), .live h4, fun d2 => ?_⟩
      obtain ⟨rs2, q1, q2⟩ := h5 d2
      exact ⟨_, .live q1, (q2.cons _).trans (.swap _ _ _)⟩
  | @dead m md o σ en rs h ih =>
    intro i d' e
    cases i with
    | zero => rw [rdS_zero] at e; cases e
    | succ i =>
      rw [rdS_cons] at e
      obtain ⟨v', m', rs', h1, h2, h3, h4, h5⟩ := ih e
      refine ⟨v', m', rs', h1, h2, h3, .dead h4, fun d2 => ?_⟩
      obtain ⟨rs2, q1, q2⟩ := h5 d2
      exact ⟨_, .dead q1, q2⟩
/-- a slot is stored anew -/
theorem SR.put {md : List Md} {σ : L2.St} {en : Sl} {rs : List Root} (h : SR md σ en rs) : ∀ {i : Nat} {m : Md}, md[i]? = some m → ∀ (v : V) (d : D),
    ∃ rs' more rs'', SR md (σ.set i (some v)) (en.set i (some d)) rs'' ∧ rs''.Perm ((v, d, m) :: rs') ∧ rs.Perm (more ++ rs') := by
  induction h with
  | nil => intro i m e; cases e
  | @live m md v σ d en rs h ih =>
    intro i m' e v' d'
    cases i with
    | zero => cases e; exact ⟨rs, [(v, d, m)], _, .live h, .refl _, .refl _⟩
    | succ i =>
      obtain ⟨rs', more, rs'', h1, h2, h3⟩ := ih (i := i) e v' d'
      refine ⟨(v, d, m) :: rs', more, _, .live h1, (h2.cons _).trans (.swap _ _ _), (h3.cons _).trans ?_⟩
      exact List.perm_middle.symm
  | @dead m md o σ en rs h ih =>
    intro i m' e v' d'
    cases i with
    | zero => cases e; exact ⟨rs, [], _, .live h, .refl _, .refl _⟩
    | succ i =>
      obtain ⟨rs', more, rs'', h1, h2, h3⟩ := ih (i := i) e v' d'
      exact ⟨rs', more, _, .dead h1, h2, h3⟩
theorem SR.kill {md : List Md} {σ : L2.St} {en : Sl} {rs : List Root} (h : SR md σ en rs) : ∀ (i : Nat) (o : Option V), ∃ rs' more, SR md (σ.set i o) (en.set i none) rs' ∧ rs.Perm (more ++ rs') := by
  induction h with
  | nil => intro i o; exact ⟨[], [], .nil, .refl _⟩
  | @live m md v σ d en rs h ih =>
    intro i o
    cases i with
    | zero => exact ⟨rs, [(v, d, m)], .dead h, .refl _⟩
    | succ i =>
      obtain ⟨rs', more, h1, h3⟩ := ih i o
      exact ⟨(v, d, m) :: rs', more, .live h1, (h3.cons _).trans List.perm_middle.symm⟩
  | @dead m md o' σ en rs h ih =>
    intro i o
    cases i with
    | zero => exact ⟨rs, [], .dead h, .refl _⟩
    | succ i =>
      obtain ⟨rs', more, h1, h3⟩ := ih i o
      exact ⟨rs', more, .dead h1, h3⟩
/-- the slot i frozen -/
theorem SR.frz {md : List Md} {σ : L2.St} {en : Sl} {rs : List Root} (h : SR md σ en rs) : ∀ (i : Nat), (∃ rs', SR (md.set i .F) σ en rs' ∧ rs'.Perm rs) ∨
    ∃ v d m rs0 rs', rs.Perm ((v, d, m) :: rs0) ∧ SR (md.set i .F) σ en rs' ∧ rs'.Perm ((v, d, .F) :: rs0) := by
  induction h with
  | nil => intro i; exact .inl ⟨[], .nil, .refl _⟩
  | @live m md v σ d en rs h ih =>
    intro i
    cases i with
    | zero => exact .inr ⟨v, d, m, rs, _, .refl _, .live h, .refl _⟩
    | succ i =>
      rcases ih i with ⟨rs', h1, h2⟩ | ⟨v', d', m', rs0, rs', h1, h2, h3⟩
      · exact .inl ⟨_, .live h1, h2.cons _⟩
      · exact .inr ⟨v', d', m', (v, d, m) :: rs0, _, (h1.cons _).trans (.swap _ _ _), .live h2, (h3.cons _).trans (.swap _ _ _)⟩
  | @dead m md o σ en rs h ih =>
    intro i
    cases i with
    | zero => exact .inl ⟨rs, .dead h, .refl _⟩
    | succ i =>
      rcases ih i with ⟨rs', h1, h2⟩ | ⟨v', d', m', rs0, rs', h1, h2, h3⟩
      · exact .inl ⟨_, .dead h1, h2⟩
      · exact .inr ⟨v', d', m', rs0, _, h1, .dead h2, h3⟩

/-- the slots and the further roots ts stand for data -/
def RepS (md : List Md) (σ : L2.St) (en : Sl) (ts : List Root) (H : Hp) : Prop := ∃ rs, SR md σ en rs ∧ Rep (rs ++ ts) H
section
variable {md : List Md} {σ : L2.St} {en : Sl} {ts : List Root} {H H' : Hp} {v : V} {d : D} {m : Md}
theorem perm_out {α : Type} {a : α} {l r : List α} : (l ++ a :: r).Perm (a :: (l ++ r)) := List.perm_middle
theorem RepS.tail {r : Root} (h : RepS md σ en (r :: ts) H) : RepS md σ en ts H := by
  obtain ⟨rs, h1, h2⟩ := h
  exact ⟨rs, h1, (h2.perm perm_out).tail⟩
theorem RepS.drop : ∀ {tr : List Root}, RepS md σ en (tr ++ ts) H → RepS md σ en ts H
  | [], h => h
  | _ :: tr, h => RepS.drop (tr := tr) h.tail
theorem RepS.permT {ts' : List Root} (h : RepS md σ en ts H) (p : ts.Perm ts') : RepS md σ en ts' H := by
  obtain ⟨rs, h1, h2⟩ := h
  exact ⟨rs, h1, h2.perm (p.append_left _)⟩
theorem RepS.get {i : Nat} (h : RepS md σ en ts H) (e : rdS en i = some d) : ∃ v m rs, σ[i]? = some (some v) ∧ md[i]? = some m ∧ Rep rs H ∧ (v, d, m) ∈ rs := by
  obtain ⟨rs, h1, h2⟩ := h
  obtain ⟨v, m, q1, q2, q3⟩ := h1.get e
  exact ⟨v, m, rs ++ ts, q1, q2, h2, List.mem_append_left _ q3⟩
/-- a frozen member once more -/
theorem RepS.dup {i : Nat} (h : RepS md σ en ts H) (e : rdS en i = some d) (hm : md[i]? = some .F) : ∃ v, σ[i]? = some (some v) ∧ RepS md σ en ((v, d, .F) :: ts) H := by
  obtain ⟨rs, h1, h2⟩ := h
  obtain ⟨v, m, q1, q2, q3⟩ := h1.get e
  rw [hm] at q2
  cases q2
  obtain ⟨Z, fp, z⟩ := h2
  obtain ⟨f, ⟨r, _⟩, _⟩ := z.own.get (List.mem_append_left _ q3)
  exact ⟨v, q1, rs, h1, (z.cons_rd r).perm perm_out.symm⟩
theorem RepS.flat (h : RepS md σ en ts H) (r : ∀ Z, Rd H Z v d) : RepS md σ en ((v, d, .F) :: ts) H := by
  obtain ⟨rs, h1, h2⟩ := h
  exact ⟨rs, h1, (h2.cons_rd r).perm perm_out.symm⟩
theorem RepS.freeze (h : RepS md σ en ((v, d, m) :: ts) H) : RepS md σ en ((v, d, .F) :: ts) H := by
  obtain ⟨rs, h1, h2⟩ := h
  exact ⟨rs, h1, ((h2.perm perm_out).freeze).perm perm_out.symm⟩
/-- the first further root is stored into a slot -/
theorem RepS.set {i : Nat} (h : RepS md σ en ((v, d, m) :: ts) H) (hm : md[i]? = some m) : RepS md (σ.set i (some v)) (en.set i (some d)) ts H := by
  obtain ⟨rs, h1, h2⟩ := h
  obtain ⟨rs', more, rs'', q1, q2, q3⟩ := h1.put hm v d
  refine ⟨rs'', q1, ?_⟩
  have p : (rs ++ (v, d, m) :: ts).Perm (more ++ (rs'' ++ ts)) := by
    refine perm_out.trans ?_
    refine ((q3.append_right ts).cons _).trans ?_
    rw [List.append_assoc]
    refine (List.perm_middle.symm).trans ?_
    exact ((q2.symm.append_right ts)).append_left more
  exact h2.sub p
theorem RepS.kill (h : RepS md σ en ts H) (i : Nat) (o : Option V) : RepS md (σ.set i o) (en.set i none) ts H := by
  obtain ⟨rs, h1, h2⟩ := h
  obtain ⟨rs', more, q1, q3⟩ := h1.kill i o
  refine ⟨rs', q1, h2.sub (more := more) ?_⟩
  rw [← List.append_assoc]
  exact q3.append_right ts
theorem RepS.frz (h : RepS md σ en ts H) (i : Nat) : RepS (md.set i .F) σ en ts H := by
  obtain ⟨rs, h1, h2⟩ := h
  rcases h1.frz i with ⟨rs', q1, q2⟩ | ⟨v, d, m, rs0, rs', q1, q2, q3⟩
  · exact ⟨rs', q1, h2.perm (q2.symm.append_right ts)⟩
  · refine ⟨rs', q2, ?_⟩
    have a := (h2.perm (q1.append_right ts)).freeze
    exact a.perm (q3.symm.append_right ts)
/-- a slot's own root ahead of all others, and back with other data -/
theorem RepS.open {i : Nat} (h : RepS md σ en ts H) (e : rdS en i = some d) : ∃ v m rs', σ[i]? = some (some v) ∧ md[i]? = some m ∧ Rep ((v, d, m) :: (rs' ++ ts)) H ∧
    ∀ d' ts' H', Rep ((v, d', m) :: (rs' ++ ts')) H' → RepS md σ (en.set i (some d')) ts' H' := by
  obtain ⟨rs, h1, h2⟩ := h
  obtain ⟨v, m, rs', q1, q2, q3, q4, q5⟩ := h1.take e
  refine ⟨v, m, rs', q1, q2, h2.perm (q3.append_right ts), fun d' ts' H' r => ?_⟩
  obtain ⟨rs'', z1, z2⟩ := q5 d'
  exact ⟨rs'', z1, r.perm (z2.symm.append_right ts')⟩
end

/-! ### readings -/
/-- what is wished of an exception: not yet -/
def XW (md : List Md) (W : WX) (c : Nat) (fs : List D) (en : Sl) (ts : List Root) (σ : L2.St) : Prop := False
def Post {α : Type} (md : List Md) (W : WX) (σ : L2.St) (ts : List Root) (x : Out α) (k : α → Sl → Prop) : Prop := match x with
  | .ok a en => k a en
  | .exc c fs en => XW md W c fs en ts σ
  | .bad => False
section
variable {α β : Type} {md : List Md} {W : WX} {σ : L2.St} {ts : List Root} {x : Out α} {k k' : α → Sl → Prop}
theorem Post.bind {f : α → Sl → Out β} {k : β → Sl → Prop} (h : Post md W σ ts (x.bind f) k) : Post md W σ ts x fun a en => Post md W σ ts (f a en) k := by
  cases x with
  | ok a en => exact h
  | exc c fs en => exact h
  | bad => exact h
theorem Post.mono (h : Post md W σ ts x k) (q : ∀ a en, x = .ok a en → k a en → k' a en) : Post md W σ ts x k' := by
  cases x with
  | ok a en => exact q a en rfl h
  | exc c fs en => exact h
  | bad => exact h
theorem XW.more {c : Nat} {fs : List D} {en : Sl} (tr : List Root) (h : XW md W c fs en ts σ) : XW md W c fs en (tr ++ ts) σ := h
theorem Post.more (tr : List Root) (h : Post md W σ ts x k) : Post md W σ (tr ++ ts) x k := by
  cases x with
  | ok a en => exact h
  | exc c fs en => exact XW.more (md := md) (W := W) (σ := σ) (ts := ts) (c := c) (fs := fs) (en := en) tr h
  | bad => exact h
theorem Post.ofO {o : Option α} {en : Sl} (h : Post md W σ ts (ofO o en) k) : ∃ a, o = some a ∧ k a en := by
  cases o with
  | none => exact h.elim
  | some a => exact ⟨a, rfl, h⟩
end
/-- an expression's reading by its meaning -/
def tD (md : List Md) (rm : Md) (W : WX) (m : Sl → Out D) : TE := fun σ H Q => ∃ en ts, RepS md σ en ts H ∧
  Post md W σ ts (m en) fun d en' => ∀ v H', RepS md σ en' ((v, d, rm) :: ts) H' → Q v H'
/-- a test's -/
def tDT (md : List Md) (W : WX) (m : Sl → Out Bool) : TT := fun σ H Q => ∃ en ts, RepS md σ en ts H ∧
  Post md W σ ts (m en) fun b en' => ∀ H', RepS md σ en' ts H' → Q b H'
/-- an operand that stands in its slot -/
def isPk : E → Bool
  | .pk _ => true
  | .lnt _ => true
  | _ => false
/-- the operands -/
inductive Ops (md : List Md) (σ : L2.St) (en : Sl) : E → List V → List D → List Md → List Root → Prop
  | nil : Ops md σ en .nil [] [] [] []
  | pk {i : Nat} {r : E} {v : V} {d : D} {m : Md} {vs : List V} {ds : List D} {ms : List Md} {tr : List Root} : σ[i]? = some (some v) → rdS en i = some d → md[i]? = some m → Ops md σ en r vs ds ms tr → Ops md σ en (.cons (.pk i) r) (v :: vs) (d :: ds) (m :: ms) tr
  | lnt {i : Nat} {r : E} {v : V} {d : D} {m : Md} {vs : List V} {ds : List D} {ms : List Md} {tr : List Root} : σ[i]? = some (some v) → rdS en i = some d → md[i]? = some m → Ops md σ en r vs ds ms tr → Ops md σ en (.cons (.lnt i) r) (v :: vs) (d :: ds) (m :: ms) tr
  | tmp {a r : E} {v : V} {d : D} {m : Md} {vs : List V} {ds : List D} {ms : List Md} {tr : List Root} : isPk a = false → Ops md σ en r vs ds ms tr → Ops md σ en (.cons a r) (v :: vs) (d :: ds) (m :: ms) ((v, d, m) :: tr)
def tDL (md : List Md) (W : WX) (m : Sl → Out (List D)) (as : E) (ms : List Md) : TA := fun σ H Q => ∃ en ts, RepS md σ en ts H ∧
  Post md W σ ts (m en) fun ds en' => ∀ vs H' tr, RepS md σ en' (tr ++ ts) H' → Ops md σ en' as vs ds ms tr → Q vs H'
theorem PE.imp {X : Cx} {e : Expr} {t t' : TE} (h : PE X e t) (q : ∀ σ H Q, t' σ H Q → t σ H Q) : PE X e t' := ⟨fun pins s σ H Q I w => h.run pins s σ H Q I (q σ H Q w)⟩
theorem PT.imp {X : Cx} {e : Expr} {t t' : TT} (h : PT X e t) (q : ∀ σ H Q, t' σ H Q → t σ H Q) : PT X e t' := ⟨fun pins s σ H Q I w => h.run pins s σ H Q I (q σ H Q w)⟩
theorem PA.imp {X : Cx} {e : List Expr} {t t' : TA} (h : PA X e t) (q : ∀ σ H Q, t' σ H Q → t σ H Q) : PA X e t' := ⟨fun p pins s σ H Q I w => h.run p pins s σ H Q I (q σ H Q w)⟩
theorem PS.imp {X : Cx} {e : Stmt} {t t' : TS} (h : PS X e t) (q : ∀ D σ H, t' D σ H → t D σ H) : PS X e t' := ⟨fun pins s σ H D I w => h.run pins s σ H D I (q D σ H w)⟩
theorem PSs.imp {X : Cx} {e : List Stmt} {t t' : TS} (h : PSs X e t) (q : ∀ D σ H, t' D σ H → t D σ H) : PSs X e t' := ⟨fun pins s σ H D I w => h.run pins s σ H D I (q D σ H w)⟩
end Dt
end
section
set_option Elab.async false
set_option linter.all false
set_option maxRecDepth 100000
set_option maxHeartbeats 4000000
/-! Operations on values: what each asks (HandS), by what it means on data. -/
namespace Dt
open PySem PySem.Spec PyProof.Rows L2

/-! ### a root as an operand -/
def LstAt (H : Hp) (a : Addr) (xs : List V) : Prop := H a = some (.lst xs) ∨ ∃ o, H a = some (.frz o (.lst xs))
theorem LstAt.sq {K : PySem.W.Frag} {H : Hp} {a : Addr} {xs : List V} (h : LstAt H a xs) : SqL K H a xs := .inl h
def Vw (H : Hp) (Z : Addr → Prop) (v : V) : D → Prop
  | .none => v = .non
  | .bool b => v = .bl b
  | .int i => v = .int i
  | .str x => v = .str x
  | .list ds => ∃ a xs, v = .ref a ∧ LstAt H a xs ∧ RdA H Z xs ds
  | .tuple ds => ∃ a xs, v = .ref a ∧ H a = some (.tup xs) ∧ RdA H Z xs ds
  | .dict es => ∃ a, v = .ref a ∧ ((∃ kvs, H a = some (.dK kvs) ∧ RdE H Z (kvs.map eK) es) ∨ ∃ kvs, kvs ≠ [] ∧ H a = some (.dT kvs) ∧ RdE H Z (kvs.map eT) es)
section
variable {H : Hp} {Z : Addr → Prop} {v : V} {d : D} {vs : List V} {ds : List D}
theorem Rd.vw (h : Rd H Z v d) : Vw H Z v d := by
  cases h with
  | non => rfl
  | bl b => rfl
  | int i => rfl
  | str x => rfl
  | lst f r => exact ⟨_, _, rfl, f.elim (fun z => .inl z.2) .inr, r⟩
  | tup e r => exact ⟨_, _, rfl, e, r⟩
  | dK z e r => exact ⟨_, rfl, .inl ⟨_, e, r⟩⟩
  | dT z n e r => exact ⟨_, rfl, .inr ⟨_, n, e, r⟩⟩
theorem ownA_F : ∀ {vs : List V} {ds : List D} {fp : List Addr}, OwnA (Own H Z .F) vs ds fp → RdA H Z vs ds
  | _, _, _, .nil => .nil
  | _, _, _, .cons h t => .cons h.1 (ownA_F t)
theorem ownE_F : ∀ {vs : List (D × V)} {ds : List (D × D)} {fp : List Addr}, OwnE (Own H Z .F) vs ds fp → RdE H Z vs ds
  | _, _, _, .nil => .nil
  | _, _, _, .cons h t => .cons h.1 (ownE_F t)
theorem rdA_own : ∀ {vs : List V} {ds : List D}, RdA H Z vs ds → OwnA (Own H Z .F) vs ds []
  | _, _, .nil => .nil
  | _, _, .cons h t => .cons (f := []) ⟨h, rfl⟩ (rdA_own t)
theorem rdE_own : ∀ {vs : List (D × V)} {ds : List (D × D)}, RdE H Z vs ds → OwnE (Own H Z .F) vs ds []
  | _, _, .nil => .nil
  | _, _, .cons h t => .cons (f := []) ⟨h, rfl⟩ (rdE_own t)
/-- the modes of what may be looked at -/
def flatM (m : Md) : Bool := decide (m = .F) || decide (m = .O .F)
theorem Own.vw {m : Md} {f : List Addr} (h : Own H Z m v d f) (hm : flatM m = true) : Vw H Z v d := by
  cases m with
  | F => exact h.1.vw
  | O m =>
    cases m with
    | O m => cases hm
    | F =>
      obtain ⟨a, fs, rfl, _, h⟩ := h
      rcases h with ⟨xs, ds, h1, rfl, h3⟩ | ⟨xs, ds, h1, rfl, h3⟩ | ⟨xs, ds, n, h1, rfl, h3⟩
      · exact ⟨a, xs, rfl, .inl h1, ownA_F h3⟩
      · exact ⟨a, rfl, .inl ⟨_, h1, ownE_F h3⟩⟩
      · exact ⟨a, rfl, .inr ⟨_, n, h1, ownE_F h3⟩⟩
theorem RdA.length : ∀ {vs : List V} {ds : List D}, RdA H Z vs ds → vs.length = ds.length
  | _, _, .nil => rfl
  | _, _, .cons _ t => congrArg (· + 1) t.length
theorem RdE.length : ∀ {vs : List (D × V)} {ds : List (D × D)}, RdE H Z vs ds → vs.length = ds.length
  | _, _, .nil => rfl
  | _, _, .cons _ t => congrArg (· + 1) t.length
theorem RdA.get : ∀ {vs : List V} {ds : List D} {i : Nat} {d : D}, RdA H Z vs ds → ds[i]? = some d → ∃ v, vs[i]? = some v ∧ Rd H Z v d
  | _, _, _, _, .nil, e => by simp at e
  | _, _, 0, _, .cons h _, e => by simp at e; subst e; exact ⟨_, rfl, h⟩
  | _, _, i + 1, _, .cons _ t, e => by
    obtain ⟨u, h1, h2⟩ := t.get (i := i) (by simpa using e)
    exact ⟨u, by simpa using h1, h2⟩
theorem RdA.getV : ∀ {vs : List V} {ds : List D} {i : Nat} {v : V}, RdA H Z vs ds → vs[i]? = some v → ∃ d, ds[i]? = some d ∧ Rd H Z v d
  | _, _, _, _, .nil, e => by simp at e
  | _, _, 0, _, .cons h _, e => by simp at e; subst e; exact ⟨_, rfl, h⟩
  | _, _, i + 1, _, .cons _ t, e => by
    obtain ⟨u, h1, h2⟩ := t.getV (i := i) (by simpa using e)
    exact ⟨u, by simpa using h1, h2⟩
theorem RdA.append : ∀ {vs ws : List V} {ds es : List D}, RdA H Z vs ds → RdA H Z ws es → RdA H Z (vs ++ ws) (ds ++ es)
  | _, _, _, _, .nil, s => s
  | _, _, _, _, .cons h t, s => .cons h (t.append s)
theorem RdA.take : ∀ {vs : List V} {ds : List D} (n : Nat), RdA H Z vs ds → RdA H Z (vs.take n) (ds.take n)
  | _, _, 0, _ => .nil
  | _, _, _ + 1, .nil => .nil
  | _, _, n + 1, .cons h t => .cons h (t.take n)
theorem RdA.drop : ∀ {vs : List V} {ds : List D} (n : Nat), RdA H Z vs ds → RdA H Z (vs.drop n) (ds.drop n)
  | _, _, 0, r => r
  | _, _, _ + 1, .nil => .nil
  | _, _, n + 1, .cons _ t => t.drop n
theorem RdA.reverse {vs : List V} {ds : List D} (r : RdA H Z vs ds) : RdA H Z vs.reverse ds.reverse := by
  induction ds generalizing vs with
  | nil => cases r; exact .nil
  | cons d ds ih =>
    cases r with
    | cons h t =>
      rw [List.reverse_cons, List.reverse_cons]
      exact (ih t).append (.cons h .nil)
theorem RdA.rep {vs : List V} {ds : List D} (r : RdA H Z vs ds) : ∀ n : Nat, RdA H Z (List.replicate n vs).flatten (List.replicate n ds).flatten
  | 0 => .nil
  | n + 1 => by
    rw [List.replicate_succ, List.replicate_succ, List.flatten_cons, List.flatten_cons]
    exact r.append (r.rep n)
/-! ### as data of the library -/
mutual
theorem Rd.dp {K : PySem.W.Frag} : ∀ {v : V} {d : D}, Rd H Z v d → d.canLay0 = true → Dp K H v d
  | _, _, .non, _ => .non
  | _, _, .bl b, _ => .bl b
  | _, _, .int i, _ => .int i
  | _, _, .str x, _ => .str x
  | _, _, .lst f r, k => .lst (LstAt.sq (f.elim (fun z => .inl z.2) .inr)) (RdA.dp r (by simpa [PyData.canLay0] using k))
  | _, _, .tup e r, k => .tup (.inl (.inl e)) (RdA.dp r (by simpa [PyData.canLay0] using k))
  | _, _, .dK _ _ _, k => by simp [PyData.canLay0] at k
  | _, _, .dT _ _ _ _, k => by simp [PyData.canLay0] at k
theorem RdA.dp {K : PySem.W.Frag} : ∀ {vs : List V} {ds : List D}, RdA H Z vs ds → PyData.canLayAll0 ds = true → DpAll K H vs ds
  | _, _, .nil, _ => .nil
  | _, _, .cons h t, k => by
    have k2 := Bool.and_eq_true_iff.mp (by simpa [PyData.canLayAll0] using k)
    exact .cons (Rd.dp h k2.1) (RdA.dp t k2.2)
end
theorem Vw.dp {K : PySem.W.Frag} (h : Vw H Z v d) (k : okD d = true) : Dp K H v d := by
  have k0 : d.canLay0 = true := SeqAt.canLay_of_shaped k
  cases d with
  | none => cases (show v = .non from h); exact .non
  | bool b => cases (show v = .bl b from h); exact .bl b
  | int i => cases (show v = .int i from h); exact .int i
  | str x => cases (show v = .str x from h); exact .str x
  | list ds =>
    obtain ⟨a, xs, rfl, l, r⟩ := h
    exact .lst l.sq (r.dp (by simpa [PyData.canLay0] using k0))
  | tuple ds =>
    obtain ⟨a, xs, rfl, l, r⟩ := h
    exact .tup (.inl (.inl l)) (r.dp (by simpa [PyData.canLay0] using k0))
  | dict es => simp [PyData.canLay0] at k0
inductive VwA (H : Hp) (Z : Addr → Prop) : List V → List D → Prop
  | nil : VwA H Z [] []
  | cons {v : V} {vs : List V} {d : D} {ds : List D} : Vw H Z v d → VwA H Z vs ds → VwA H Z (v :: vs) (d :: ds)
theorem VwA.one {d : D} (h : VwA H Z vs [d]) : ∃ v, vs = [v] ∧ Vw H Z v d := by
  cases h with
  | cons h t => cases t; exact ⟨_, rfl, h⟩
theorem VwA.two {d e : D} (h : VwA H Z vs [d, e]) : ∃ v w, vs = [v, w] ∧ Vw H Z v d ∧ Vw H Z w e := by
  cases h with
  | cons h t => obtain ⟨w, rfl, h2⟩ := t.one; exact ⟨_, _, rfl, h, h2⟩
theorem VwA.three {d e f : D} (h : VwA H Z vs [d, e, f]) : ∃ u v w, vs = [u, v, w] ∧ Vw H Z u d ∧ Vw H Z v e ∧ Vw H Z w f := by
  cases h with
  | cons h t => obtain ⟨w, w', rfl, h2, h3⟩ := t.two; exact ⟨_, _, _, rfl, h, h2, h3⟩
end
/-! ### results -/
def rmO (fr : Bool) : Md := if fr then .O .F else .F
section
variable {H : Hp} {Z : Addr → Prop} {fp : List Addr} {roots : List Root} {Q : VK} {fr : Bool}
abbrev Wish (roots : List Root) (Q : VK) (d : D) (m : Md) : Prop := ∀ v H', Rep ((v, d, m) :: roots) H' → Q v H'
theorem RepZ.rep (z : RepZ roots H Z fp) : Rep roots H := ⟨Z, fp, z⟩
theorem res_rd {v : V} {d : D} (z : RepZ roots H Z fp) (r : Rd H Z v d) (q : Wish roots Q d .F) : Q v H := q v H (z.cons_rd r)
theorem res_newL {xs : List V} {ds : List D} (z : RepZ roots H Z fp) (r : RdA H Z xs ds) (q : Wish roots Q (.list ds) (rmO fr)) : ∀ p, H p = none → Q (.ref p) (upd H p (.lst xs)) := fun p hp => by
  have w : Rep ((.ref p, .list ds, .O .F) :: roots) (upd H p (.lst xs)) := z.push hp ⟨p, [], rfl, rfl, .inl ⟨xs, ds, upd_same, rfl, rdA_own (r.mono (ext_new hp) fun _ h => h)⟩⟩
  cases fr with
  | true => exact q _ _ w
  | false => exact q _ _ w.freeze
theorem RepZ.pushT {xs : List V} {ds : List D} (z : RepZ roots H Z fp) {p : Addr} (hp : H p = none) (r : RdA H Z xs ds) : Rep ((.ref p, .tuple ds, .F) :: roots) (upd H p (.tup xs)) :=
  (z.alloc (o := .tup xs) hp).cons_rd (.tup upd_same (r.mono (ext_new hp) fun _ h => h))
theorem res_newT {xs : List V} {ds : List D} (z : RepZ roots H Z fp) (r : RdA H Z xs ds) (q : Wish roots Q (.tuple ds) .F) : ∀ p, H p = none → Q (.ref p) (upd H p (.tup xs)) := fun p hp =>
  q _ _ (z.pushT hp r)
end
/-! ### the operations by values -/
/-- what r asks holds where the operation has a meaning -/
def OpD (o : Op) (r : List V → Hp → VK → Prop) : Prop := ∀ (fr : Bool) (roots : List Root) (H : Hp) (Z : Addr → Prop) (fp : List Addr) (vs : List V) (ds : List D) (d : D) (Q : VK),
  RepZ roots H Z fp → VwA H Z vs ds → opR o fr ds = some d → Wish roots Q d (rmO fr) → r vs H Q
def u1 (r : V → Hp → VK → Prop) : List V → Hp → VK → Prop := fun vs H Q => match vs with
  | [x] => r x H Q
  | _ => False
def u2 (r : R2) : List V → Hp → VK → Prop := fun vs H Q => match vs with
  | [x, y] => r x y H Q
  | _ => False
theorem opR_F {o : Op} {ds : List D} {d : D} {fr : Bool} (e : opR o fr ds = some d) (n : ∀ d, opF o ds = some d → frD o d = false) : opF o ds = some d ∧ fr = false := by
  unfold opR at e
  cases h : opF o ds with
  | none => rw [h] at e; cases e
  | some d' =>
    rw [h] at e
    cases fr with
    | false => exact ⟨e, rfl⟩
    | true =>
      rw [Option.bind_some, if_pos rfl, n d' h] at e
      cases e
theorem opR_any {o : Op} {ds : List D} {d : D} {fr : Bool} (e : opR o fr ds = some d) : opF o ds = some d := by
  unfold opR at e
  cases h : opF o ds with
  | none => rw [h] at e; cases e
  | some d' =>
    rw [h] at e
    cases fr with
    | false => exact e
    | true =>
      rw [Option.bind_some, if_pos rfl] at e
      split at e
      · exact e
      · cases e
theorem opR_fr {o : Op} {ds : List D} {d : D} (e : opR o true ds = some d) : frD o d = true := by
  unfold opR at e
  cases h : opF o ds with
  | none => rw [h] at e; cases e
  | some d' =>
    rw [h, Option.bind_some, if_pos rfl] at e
    split at e
    · cases e; assumption
    · cases e
/-- a result that is no new list -/
theorem wish_F {o : Op} {ds : List D} {d : D} {fr : Bool} {roots : List Root} {Q : VK} (e : opR o fr ds = some d) (n : frD o d = false) (q : Wish roots Q d (rmO fr)) : Wish roots Q d .F := by
  cases fr with
  | false => exact q
  | true => rw [opR_fr e] at n; cases n
section
variable {K : PySem.W.Frag} {H : Hp} {Z : Addr → Prop} {v : V}
theorem vw_int {i : Int} (h : Vw H Z v (.int i)) : v = .int i := h
theorem vw_bl {i : Bool} (h : Vw H Z v (.bool i)) : v = .bl i := h
theorem vw_str {i : Str} (h : Vw H Z v (.str i)) : v = .str i := h
end
theorem len1 {α : Type} {ds : List D} {f : D → Option α} {d : α} {g : List D → Option α} (e : g ds = some d) (h : ∀ a, g [a] = f a) (n : ∀ l, (∀ a, l ≠ [a]) → g l = none) : ∃ a, ds = [a] ∧ f a = some d := by
  match ds, e with
  | [], e => rw [n [] (fun _ z => nomatch z)] at e; cases e
  | [a], e => exact ⟨a, rfl, (h a).symm.trans e⟩
  | a :: b :: r, e => rw [n _ (fun _ z => by cases z)] at e; cases e
/-- lists -/
def rCatL : R2 := fun x y H Q => ∃ l b xs zs, x = .ref l ∧ y = .ref b ∧ LstAt H l xs ∧ LstAt H b zs ∧ xs.length + zs.length ≤ sizeLine ∧ ∀ p, H p = none → Q (.ref p) (upd H p (.lst (xs ++ zs)))
def rRepL : R2 := fun x y H Q => ∃ l k xs, x = .ref l ∧ y = .int k ∧ LstAt H l xs ∧ -(2 ^ 63) ≤ k ∧ k < 2 ^ 63 ∧ xs.length * k.toNat ≤ sizeLine ∧
  ∀ p, H p = none → Q (.ref p) (upd H p (.lst (List.replicate k.toNat xs).flatten))
section
variable {X : Cx} {pins : List (Addr × Obj)} {σ : L2.St} {H : Hp} {s : Shared} {a : Addr} {xs : List V}
theorem lst_obj (I : Inv X pins σ H s) (h : LstAt H a xs) : xs.length ≤ sizeLine ∧ ∃ (its : List Value) (n : Nat), Vals xs its ∧ xs.length = its.length ∧ s.heap.get? a = some { cls := .type "list", data := .seq its.toArray n } := by
  obtain ⟨z, its, n, r, e⟩ := (show L2.Rd H a (.lst xs) from h).ok I.hok
  exact ⟨z, its, n, r, r.length, e⟩
theorem op_catL : OpR X (binaryOp .Add) rCatL := by
  intro pins s σ H x y v u Q I rx ry ⟨l, b, xs, zs, e1, e2, hH, hB, hz, q⟩
  subst e1 e2
  cases rx
  cases ry
  obtain ⟨_, its, n, r, hl, e⟩ := lst_obj I hH
  obtain ⟨_, its2, n2, r2, hl2, e2⟩ := lst_obj I hB
  refine PySem.P.add_list e e2 ?_ (by simp only [List.size_toArray]; omega)
  have ea : its.toArray ++ its2.toArray = (its ++ its2).toArray := List.append_toArray ..
  rw [ea]
  have ne := I.fresh
  exact ⟨.ref _, _, I.lnew (t' := s.toks) (r.append r2) (by simpa using hz), rfl, q _ ne⟩
theorem op_repL : OpR X (binaryOp .Mult) rRepL := by
  intro pins s σ H x y v u Q I rx ry ⟨l, k, xs, e1, e2, hH, b1, b2, hz, q⟩
  subst e1 e2
  cases rx
  obtain ⟨t, rfl⟩ := ry
  obtain ⟨_, its, n, r, hl, e⟩ := lst_obj I hH
  have sz1 : its.toArray.size * k.toNat ≤ sizeLine := by simpa only [List.size_toArray, ← hl] using hz
  have sz2 : ¬ its.toArray.size * k.toNat > (2 ^ 63 - 1) / 8 := by
    have z : (sizeLine : Nat) ≤ (2 ^ 63 - 1) / 8 := by decide
    exact Nat.not_lt.mpr (Nat.le_trans sz1 z)
  have sz3 : ¬ (!Builtin.List.listFitsIndex k) = true := by simp [fitsIndex_both b1 b2]
  have sz4 : ¬ Builtin.List.listTooLong (its.toArray.size * k.toNat) = true := by rw [notLongL sz1]; decide
  have all : ∀ m : Nat, List.foldl (fun x1 x2 => x1 ++ x2) #[] (List.replicate m its.toArray) = (List.replicate m its).flatten.toArray := fun m => by simpa using foldl_rep its m []
  have new : List.foldl (fun x1 x2 => x1 ++ x2) #[] (List.replicate (if its.toArray.isEmpty = true then 0 else k.toNat) its.toArray) = (List.replicate k.toNat its).flatten.toArray := by
    rw [all]
    cases its <;> simp
  have z : Inv X pins σ _ _ := I.lnew (t' := s.toks) (r.rep k.toNat) (by simpa only [PyProof.Rows.lm_len_rep_flat, Nat.mul_comm] using hz)
  refine wpAny_binaryOp_repeat_ref (T := "list") (U := "int") (by decide) ⟨_, e, rfl⟩ (typeIs_int · k t) noFill_list_mul F.fills_int_mul F.slot_int_rmul repeat_list F.slot_int_index.lookup ?_
  refine call_meets F.slot_int_rmul (typeIs_int s k t) F.entry_int_rmul (F.args_int_rmul_2 _ _) (int___rmul___int_list k t l its.toArray n) ⟨e, rfl, ⟨_, e, rfl⟩, ?_⟩
  refine call_meets F.slot_list_mul ⟨_, e, rfl⟩ F.entry_list_mul (F.args_list_mul_2 _ _) (AutoListH.list___mul___list_int_3 l its.toArray n k t sz3 sz2 sz4) ⟨e, ?_⟩
  rw [new]
  exact ⟨.ref _, _, z, rfl, q _ I.fresh⟩
/-- a < b by the data -/
def rLtD (K : PySem.W.Frag) (sw : Bool) : R2 := fun x y H Q => ∃ d e, Dp K H x d ∧ Dp K H y e ∧ okD d = true ∧ okD e = true ∧ W.alike d e = true ∧ d ≠ .none ∧ Q (.bl (if sw then W.dataLt e d else W.dataLt d e)) H
theorem op_ltD (hu : X.A.units + 64 < cLine) : OpR X (compareOp .Lt) (rLtD X.K false) := by
  intro pins s σ H x y v u Q I rx ry ⟨d, e, hd, he, sd, se, al, nn, q⟩
  obtain ⟨as, r1⟩ := Dp.reads I d x v hd rx
  obtain ⟨bs, r2⟩ := Dp.reads I e y u he ry
  exact W.lt_data r1 r2 al nn (SeqAt.room_of_shaped sd hu) ⟨.bl _, H, I, rfl, q⟩
theorem op_gtD (hu : X.A.units + 64 < cLine) : OpR X (compareOp .Gt) (rLtD X.K true) := by
  intro pins s σ H x y v u Q I rx ry ⟨d, e, hd, he, sd, se, al, nn, q⟩
  obtain ⟨as, r1⟩ := Dp.reads I d x v hd rx
  obtain ⟨bs, r2⟩ := Dp.reads I e y u he ry
  exact W.gt_data r1 r2 al nn (SeqAt.room_of_shaped sd hu) ⟨.bl _, H, I, rfl, q⟩
/-- x in a list, a tuple, by the data -/
def rInS (K : PySem.W.Frag) (neg : Bool) : R2 := fun x y H Q => ∃ d ds, Dp K H x d ∧ (Dp K H y (.list ds) ∨ Dp K H y (.tuple ds)) ∧ okD d = true ∧ okD (.list ds) = true ∧ Q (.bl (if neg then !(ds.any fun z => PyData.eqv z d) else ds.any fun z => PyData.eqv z d)) H
theorem room_in {A : Around} {d : D} {ds : List D} (sd : okD d = true) (hu : A.units + 66 < cLine) : A.units + 1 + min (PyData.depthAll ds) d.depth < cLine := by
  have h1 := SeqAt.depth_of_shaped sd
  have h2 : min (PyData.depthAll ds) d.depth ≤ d.depth := Nat.min_le_right _ _
  omega
theorem layAll {ds : List D} (h : okD (.list ds) = true) : PyData.canLayAll0 ds = true := by
  have k := SeqAt.canLay_of_shaped h
  simpa [PyData.canLay0] using k
theorem op_inS (hu : X.A.units + 66 < cLine) : OpR X (compareOp .In) (rInS X.K false) := by
  intro pins s σ H x y v u Q I rx ry ⟨d, ds, hd, he, sd, se, q⟩
  obtain ⟨as, r1⟩ := Dp.reads I d x v hd rx
  rcases he with he | he
  · obtain ⟨bs, r2⟩ := Dp.reads I _ y u he ry
    exact SeqAt.in_list_reads r2 r1 (layAll se) (SeqAt.canLay_of_shaped sd) (room_in sd hu) ⟨.bl _, H, I, rfl, q⟩
  · obtain ⟨bs, r2⟩ := Dp.reads I _ y u he ry
    exact SeqAt.in_tuple_reads r2 r1 (layAll se) (SeqAt.canLay_of_shaped sd) (room_in sd hu) ⟨.bl _, H, I, rfl, q⟩
theorem op_notInS (hu : X.A.units + 66 < cLine) : OpR X (compareOp .NotIn) (rInS X.K true) := by
  intro pins s σ H x y v u Q I rx ry ⟨d, ds, hd, he, sd, se, q⟩
  obtain ⟨as, r1⟩ := Dp.reads I d x v hd rx
  rcases he with he | he
  · obtain ⟨bs, r2⟩ := Dp.reads I _ y u he ry
    exact SeqAt.notIn_list_reads r2 r1 (layAll se) (SeqAt.canLay_of_shaped sd) (room_in sd hu) ⟨.bl _, H, I, rfl, q⟩
  · obtain ⟨bs, r2⟩ := Dp.reads I _ y u he ry
    exact SeqAt.notIn_tuple_reads r2 r1 (layAll se) (SeqAt.canLay_of_shaped sd) (room_in sd hu) ⟨.bl _, H, I, rfl, q⟩
/-- x in d, x not in d, for a dict -/
def rInDc (neg : Bool) : R2 := fun x y H Q => ∃ a o, y = .ref a ∧ DGet H a x o ∧ Q (.bl (if neg then !o.isSome else o.isSome)) H
theorem op_inDc (hu : X.A.units + 66 < cLine) : OpR X (compareOp .In) (rInDc false) := by
  intro pins s σ H x y v u Q I rx ry ⟨a, o, e, g, q⟩
  subst e
  cases ry
  exact d_in (by omega) I g rx fun s3 I3 => ⟨.bl o.isSome, H, I3, rfl, q⟩
theorem op_notInDc (hu : X.A.units + 66 < cLine) : OpR X (compareOp .NotIn) (rInDc true) := by
  intro pins s σ H x y v u Q I rx ry ⟨a, o, e, g, q⟩
  subst e
  cases ry
  exact d_notIn (by omega) I g rx fun s3 I3 => ⟨.bl (!o.isSome), H, I3, rfl, q⟩
/-- min(xs), max(xs) by the data -/
def rMinS (K : PySem.W.Frag) (mx : Bool) : List V → Hp → VK → Prop := fun vs H Q => ∃ a x r xs, vs = [.ref a] ∧ (LstAt H a xs ∨ H a = some (.tup xs)) ∧ DpAll K H xs (x :: r) ∧ okD (.list (x :: r)) = true ∧ W.AlikeAll (x :: r) ∧
  ∀ (i : Nat) v d, xs[i]? = some v → (x :: r)[i]? = some d → d = (if mx then W.maxD x r else W.minD x r) → Q v H
theorem DpAll.getV {K : PySem.W.Frag} : ∀ {vs : List V} {ds : List D} {i : Nat} {v : V}, DpAll K H vs ds → vs[i]? = some v → ∃ d, ds[i]? = some d ∧ Dp K H v d
  | _, _, _, _, .nil, e => by simp at e
  | _, _, 0, _, .cons h _, e => by simp at e; subst e; exact ⟨_, rfl, h⟩
  | _, _, i + 1, _, .cons _ t, e => by
    obtain ⟨u, h1, h2⟩ := DpAll.getV (i := i) t (by simpa using e)
    exact ⟨u, by simpa using h1, h2⟩
theorem canLay_mem : ∀ {ds : List D} {d : D}, PyData.canLayAll0 ds = true → d ∈ ds → d.canLay0 = true
  | _ :: _, _, h, m => by
    obtain ⟨h1, h2⟩ := Bool.and_eq_true_iff.mp (by simpa [PyData.canLayAll0] using h)
    rcases List.mem_cons.mp m with rfl | m
    · exact h1
    · exact canLay_mem h2 m
theorem vals_getU : ∀ {xs : List V} {us : List Value} {i : Nat} {u : Value}, Vals xs us → us[i]? = some u → ∃ x, xs[i]? = some x ∧ RelV x u
  | _, _, _, _, .nil, e => by simp at e
  | _, _, 0, _, .cons r _, e => by simp at e; subst e; exact ⟨_, rfl, r⟩
  | _, _, i + 1, _, .cons _ t, e => by
    obtain ⟨x, h1, h2⟩ := vals_getU (i := i) t (by simpa using e)
    exact ⟨x, by simpa using h1, h2⟩
theorem cr_minS (mx : Bool) (hc : X.calm = true) (hu : X.A.units + 66 < cLine) : CallR X (.builtin (if mx then "max" else "min")) (rMinS X.K mx) := by
  intro pins s σ H vs us Q I rv ⟨a, x, r, xs, e1, ha, hd, ok, al, q⟩
  subst e1
  rw [Vals.ref1 rv]
  have hh := I.ok.hd hc
  have hdep : X.A.units + 1 + PyData.depthAll (x :: r) < cLine := by
    have h1 := SeqAt.depth_of_shaped ok
    simp only [PyData.depth] at h1
    omega
  have fin : ∀ (its : List Value), Vals xs its → ∀ (i : Nat) v h' tk bs, its.toArray[i]? = some v → Reads h' v (if mx then W.maxD x r else W.minD x r) bs → (∀ b o, s.heap.get? b = some o → h'.get? b = some o) → EP X pins σ Q v { s with heap := h', toks := tk } := by
    intro its r1 i v h' tk bs hi hr hk
    obtain ⟨w, hw, rw⟩ := vals_getU r1 (by simpa using hi)
    obtain ⟨d, hd1, hd2⟩ := DpAll.getV hd hw
    obtain ⟨cs, hrd⟩ := Dp.reads I d w v hd2 rw
    have hlay := canLay_mem (layAll ok) (List.mem_of_getElem? hd1)
    have e := SeqAt.Reads.unique d _ v cs bs hlay (PyProof.Rows.Reads.keeps hk hrd) hr
    exact ⟨w, H, I.kept hk, rw, q i w d hw hd1 e⟩
  rcases ha with ha | ha
  · obtain ⟨_, its, n, r1, _, e⟩ := lst_obj I ha
    obtain ⟨as, hra⟩ := Dp.readsAll I (x :: r) xs its hd r1
    cases mx with
    | false => exact W.min_list_data hh ⟨_, e, rfl, _, rfl⟩ hra al hdep (fin its r1)
    | true => exact W.max_list_data hh ⟨_, e, rfl, _, rfl⟩ hra al hdep (fin its r1)
  · obtain ⟨its, r1, p, _⟩ := I.tuple (show SqT X.K H a xs from .inl (.inl ha))
    obtain ⟨as, hra⟩ := Dp.readsAll I (x :: r) xs its hd r1
    cases mx with
    | false => exact W.min_tuple_data hh p hra al hdep (fin its r1)
    | true => exact W.max_tuple_data hh p hra al hdep (fin its r1)
/-- repr of data; no guard runs -/
def rRepr (K : PySem.W.Frag) : List V → Hp → VK → Prop := fun vs H Q => ∃ v d, vs = [v] ∧ Dp K H v d ∧ okD d = true ∧ d.showable = true ∧ d.shown.length ≤ sizeLine ∧ Q (.str d.shown) H
theorem noDict : ∀ {d : D}, d.canLay0 = true → d.hasDict = false := by
  have all : ∀ (d : D), d.canLay0 = true → d.hasDict = false := by
    intro d
    refine PyData.rec (motive_1 := fun d => d.canLay0 = true → d.hasDict = false) (motive_2 := fun ds => PyData.canLayAll0 ds = true → PyData.hasDictAll ds = false) (motive_3 := fun _ => True) (motive_4 := fun _ => True)
      ?_ ?_ ?_ ?_ ?_ ?_ ?_ ?_ ?_ ?_ ?_ ?_ d
    all_goals first
      | (intros; trivial)
      | (intros; simp_all [PyData.canLay0, PyData.hasDict, PyData.canLayAll0, PyData.hasDictAll])
  intro d
  exact all d
theorem cr_repr (hg : X.A.guards = some []) (hu : X.A.units + 66 < cLine) : CallR X (.builtin "repr") (rRepr X.K) := by
  intro pins s σ H vs us Q I rv ⟨v, d, e1, hd, ok, sh, sz, q⟩
  subst e1
  obtain ⟨u, rfl, ru⟩ := vals1 rv
  obtain ⟨as, hr⟩ := Dp.reads I d v u hd ru
  have hdep : X.A.units + (d.depth + 1) < cLine := by
    have h1 := SeqAt.depth_of_shaped ok
    omega
  have nd := noDict (SeqAt.canLay_of_shaped ok)
  have fin : ∀ h' tk, (∀ b o, s.heap.get? b = some o → h'.get? b = some o) → ∀ t, EP X pins σ Q (.str d.shown t) { s with heap := h', toks := tk } := fun h' tk hk t => ⟨.str d.shown, H, I.kept hk, ⟨t, rfl⟩, q⟩
  cases hr with
  | none => exact PySem.P.repr_of_none (by simpa [PyData.shown] using fin s.heap _ (fun _ _ e => e) _)
  | bool b => exact PySem.P.repr_of_bool (by simpa [PyData.shown] using fin s.heap _ (fun _ _ e => e) _)
  | int i t => exact PySem.P.repr_of_int (by simpa [PyData.showable] using sh) (by simpa [PyData.shown] using fin s.heap _ (fun _ _ e => e) _)
  | str x t => exact PySem.P.repr_of_str (by simpa [PyData.shown] using fin s.heap _ (fun _ _ e => e) _) (by simpa only [PyData.shown] using sz)
  | list h1 h2 h3 h4 => exact repr_of_reads' (.list h1 h2 h3 h4) sh (fun e => by rw [nd] at e; cases e) hg hdep (fun _ _ e => e) (fun h' t tk hk => fin h' tk hk t) sz
  | tuple h1 h2 h3 h4 => exact repr_of_reads' (.tuple h1 h2 h3 h4) sh (fun e => by rw [nd] at e; cases e) hg hdep (fun _ _ e => e) (fun h' t tk hk => fin h' tk hk t) sz
  | dict h1 h2 h3 h4 h5 => simp [PyData.hasDict] at nd
end
end Dt
end
section
set_option Elab.async false
set_option linter.all false
set_option maxRecDepth 100000
set_option maxHeartbeats 4000000
/-! Each operation: what its rule asks holds where it has a meaning. -/
namespace Dt
open PySem PySem.Spec PyProof.Rows L2
def OpD1 (o : Op) (r : V → Hp → VK → Prop) : Prop := OpD o (u1 r)
def OpD2 (o : Op) (r : R2) : Prop := OpD o (u2 r)
theorem one_of {ds : List D} {d : D} {o : Op} (e : opF o ds = some d) (n2 : ∀ a b, opF o [a, b] = none) (n3 : ∀ a b c, opF o [a, b, c] = none) : ∃ a, ds = [a] ∧ opF o [a] = some d := by
  match ds, e with
  | [], e => cases e
  | [a], e => exact ⟨a, rfl, e⟩
  | [a, b], e => rw [n2] at e; cases e
  | [a, b, c], e => rw [n3] at e; cases e
  | a :: b :: c :: f :: r, e => cases e
theorem two_of {ds : List D} {d : D} {o : Op} (e : opF o ds = some d) (n2 : ∀ a, opF o [a] = none) (n3 : ∀ a b c, opF o [a, b, c] = none) : ∃ a b, ds = [a, b] ∧ opF o [a, b] = some d := by
  match ds, e with
  | [], e => cases e
  | [a], e => rw [n2] at e; cases e
  | [a, b], e => exact ⟨a, b, rfl, e⟩
  | [a, b, c], e => rw [n3] at e; cases e
  | a :: b :: c :: f :: r, e => cases e
/-- a rule of one operand -/
theorem OpD1.mk {o : Op} {r : V → Hp → VK → Prop} (n2 : ∀ a b, opF o [a, b] = none) (n3 : ∀ a b c, opF o [a, b, c] = none)
    (k : ∀ (fr : Bool) (roots : List Root) (H : Hp) (Z : Addr → Prop) (fp : List Addr) (v : V) (a d : D) (Q : VK), RepZ roots H Z fp → Vw H Z v a → opF o [a] = some d → (frD o d = false → Wish roots Q d .F) → Wish roots Q d (rmO fr) → r v H Q) : OpD1 o r := by
  intro fr roots H Z fp vs ds d Q z hv e q
  obtain ⟨a, rfl, e'⟩ := one_of (opR_any e) n2 n3
  obtain ⟨v, rfl, h⟩ := hv.one
  exact k fr roots H Z fp v a d Q z h e' (fun n => wish_F e n q) q
theorem OpD2.mk {o : Op} {r : R2} (n2 : ∀ a, opF o [a] = none) (n3 : ∀ a b c, opF o [a, b, c] = none)
    (k : ∀ (fr : Bool) (roots : List Root) (H : Hp) (Z : Addr → Prop) (fp : List Addr) (v w : V) (a b d : D) (Q : VK), RepZ roots H Z fp → Vw H Z v a → Vw H Z w b → opF o [a, b] = some d → (frD o d = false → Wish roots Q d .F) → Wish roots Q d (rmO fr) → r v w H Q) : OpD2 o r := by
  intro fr roots H Z fp vs ds d Q z hv e q
  obtain ⟨a, b, rfl, e'⟩ := two_of (opR_any e) n2 n3
  obtain ⟨v, w, rfl, h, h2⟩ := hv.two
  exact k fr roots H Z fp v w a b d Q z h h2 e' (fun n => wish_F e n q) q
section
variable {K : PySem.W.Frag}
def rAddS : R2 := fun x y H Q => ∃ i j, x = .str i ∧ y = .str j ∧ i.length + j.length ≤ sizeLine ∧ Q (.str (i ++ j)) H
def orR (r r' : R2) : R2 := fun x y H Q => r x y H Q ∨ r' x y H Q
def orC (r r' : List V → Hp → VK → Prop) : List V → Hp → VK → Prop := fun xs H Q => r xs H Q ∨ r' xs H Q
theorem od_add : OpD2 .add (orR (orR (orR (rI0 fun i j => .int (i + j)) rAddS) rCatL) (rCatA K)) := by
  refine OpD2.mk (fun _ => rfl) (fun _ _ _ => rfl) fun fr roots H Z fp v w a b d Q z hv hw e qF q => ?_
  have e : fAdd a b = some d := e
  unfold fAdd at e
  split at e
  · cases e
    cases vw_int hv; cases vw_int hw
    exact .inl (.inl (.inl ⟨_, _, rfl, rfl, res_rd z (.int _) (qF rfl)⟩))
  · cases vw_str hv; cases vw_str hw
    split at e
    · cases e
      exact .inl (.inl (.inr ⟨_, _, rfl, rfl, by assumption, res_rd z (.str _) (qF rfl)⟩))
    · cases e
  · rename_i xs ys
    obtain ⟨l, us, rfl, hl, r1⟩ := hv
    obtain ⟨b, ws, rfl, hb, r2⟩ := hw
    split at e
    · rename_i hz
      cases e
      exact .inl (.inr ⟨l, b, us, ws, rfl, rfl, hl, hb, by rw [r1.length, r2.length]; exact hz, res_newL z (r1.append r2) q⟩)
    · cases e
  · rename_i xs ys
    obtain ⟨l, us, rfl, hl, r1⟩ := hv
    obtain ⟨b, ws, rfl, hb, r2⟩ := hw
    split at e
    · rename_i hz
      cases e
      have q' := qF rfl
      refine .inr ⟨l, b, us, ws, rfl, rfl, .inl (.inl hl), .inl (.inl hb), by rw [r1.length, r2.length]; exact hz, fun e1 => ?_, fun _ e2 => ?_, fun _ _ => res_newT z (r1.append r2) q'⟩
      · subst e1; cases r1; exact res_rd z (.tup hb r2) q'
      · subst e2; cases r2; rw [List.append_nil] at q'; exact res_rd z (.tup hl r1) q'
    · cases e
  · cases e
theorem od_sub : OpD2 .sub (rI0 fun i j => .int (i - j)) := by
  refine OpD2.mk (fun _ => rfl) (fun _ _ _ => rfl) fun fr roots H Z fp v w a b d Q z hv hw e qF q => ?_
  have e : fSub a b = some d := e
  unfold fSub at e
  split at e
  · cases e
    cases vw_int hv; cases vw_int hw
    exact ⟨_, _, rfl, rfl, res_rd z (.int _) (qF rfl)⟩
  · cases e
theorem od_mul : OpD2 .mul (orR (rI CMul fun i j => .int (i * j)) rRepL) := by
  refine OpD2.mk (fun _ => rfl) (fun _ _ _ => rfl) fun fr roots H Z fp v w a b d Q z hv hw e qF q => ?_
  have e : fMul a b = some d := e
  unfold fMul at e
  split at e
  · split at e
    · rename_i hz
      cases e
      cases vw_int hv; cases vw_int hw
      exact .inl ⟨_, _, rfl, rfl, hz, res_rd z (.int _) (qF rfl)⟩
    · cases e
  · split at e
    · rename_i hz
      cases e
      cases vw_int hw
      obtain ⟨l, us, rfl, hl, r1⟩ := hv
      exact .inr ⟨l, _, us, rfl, rfl, hl, hz.1, hz.2.1, by rw [r1.length]; exact hz.2.2, res_newL z (r1.rep _) q⟩
    · cases e
  · cases e
theorem od_fdiv : OpD2 .fdiv (rI CDivN fun i j => .int (i.fdiv j)) := by
  refine OpD2.mk (fun _ => rfl) (fun _ _ _ => rfl) fun fr roots H Z fp v w a b d Q z hv hw e qF q => ?_
  have e : fDiv a b = some d := e
  unfold fDiv at e
  split at e
  · split at e
    · rename_i hz
      cases e
      cases vw_int hv; cases vw_int hw
      exact ⟨_, _, rfl, rfl, hz, res_rd z (.int _) (qF rfl)⟩
    · cases e
  · cases e
theorem od_mod : OpD2 .mod (rI (fun _ j => j ≠ 0) fun i j => .int (i.fmod j)) := by
  refine OpD2.mk (fun _ => rfl) (fun _ _ _ => rfl) fun fr roots H Z fp v w a b d Q z hv hw e qF q => ?_
  have e : fMod a b = some d := e
  unfold fMod at e
  split at e
  · split at e
    · rename_i hz
      cases e
      cases vw_int hv; cases vw_int hw
      exact ⟨_, _, rfl, rfl, hz, res_rd z (.int _) (qF rfl)⟩
    · cases e
  · cases e
theorem od_pow : OpD2 .pow (rI CPow fun i j => .int (i ^ j.toNat)) := by
  refine OpD2.mk (fun _ => rfl) (fun _ _ _ => rfl) fun fr roots H Z fp v w a b d Q z hv hw e qF q => ?_
  have e : fPow a b = some d := e
  unfold fPow at e
  split at e
  · split at e
    · rename_i hz
      cases e
      cases vw_int hv; cases vw_int hw
      exact ⟨_, _, rfl, rfl, hz, res_rd z (.int _) (qF rfl)⟩
    · cases e
  · cases e
theorem od_neg : OpD1 .neg (rU fun i => .int (-i)) := by
  refine OpD1.mk (fun _ _ => rfl) (fun _ _ _ => rfl) fun fr roots H Z fp v a d Q z hv e qF q => ?_
  have e : fNeg a = some d := e
  unfold fNeg at e
  split at e
  · cases e
    cases vw_int hv
    exact ⟨_, rfl, res_rd z (.int _) (qF rfl)⟩
  · cases e
theorem dBool_some {o : Option Bool} {d : D} (e : dBool o = some d) : ∃ b, o = some b ∧ d = .bool b := by
  cases o with
  | none => cases e
  | some b => exact ⟨b, rfl, (Option.some.inj e).symm⟩
theorem dEq_some {a b : D} {c : Bool} (e : dEq a b = some c) : okD a = true ∧ okD b = true ∧ c = PyData.eqv a b := by
  unfold dEq at e
  split at e
  · rename_i h
    obtain ⟨h1, h2⟩ := Bool.and_eq_true_iff.mp h
    exact ⟨h1, h2, (Option.some.inj e).symm⟩
  · cases e
theorem od_eq : OpD2 .eq (rEqD K) := by
  refine OpD2.mk (fun _ => rfl) (fun _ _ _ => rfl) fun fr roots H Z fp v w a b d Q z hv hw e qF q => ?_
  obtain ⟨c, e1, rfl⟩ := dBool_some e
  obtain ⟨h1, h2, rfl⟩ := dEq_some e1
  exact ⟨a, b, hv.dp h1, hw.dp h2, h1, h2, res_rd z (.bl _) (qF rfl)⟩
theorem od_ne : OpD2 .ne (rNeD K) := by
  refine OpD2.mk (fun _ => rfl) (fun _ _ _ => rfl) fun fr roots H Z fp v w a b d Q z hv hw e qF q => ?_
  obtain ⟨c, e1, rfl⟩ := dBool_some e
  obtain ⟨c', e2, rfl⟩ := Option.map_eq_some_iff.mp e1
  obtain ⟨h1, h2, rfl⟩ := dEq_some e2
  exact ⟨a, b, hv.dp h1, hw.dp h2, h1, h2, res_rd z (.bl _) (qF rfl)⟩
theorem and4 {a b c d : Bool} (h : (a && b && c && d) = true) : a = true ∧ b = true ∧ c = true ∧ d = true := by
  simp only [Bool.and_eq_true] at h
  exact ⟨h.1.1.1, h.1.1.2, h.1.2, h.2⟩
theorem od_lt : OpD2 .lt (orR (rI0 fun i j => .bl (decide (i < j))) (rLtD K false)) := by
  refine OpD2.mk (fun _ => rfl) (fun _ _ _ => rfl) fun fr roots H Z fp v w a b d Q z hv hw e qF q => ?_
  obtain ⟨c, e1, rfl⟩ := dBool_some e
  unfold dLt at e1
  split at e1
  · cases e1
    cases vw_int hv; cases vw_int hw
    exact .inl ⟨_, _, rfl, rfl, res_rd z (.bl _) (qF rfl)⟩
  · split at e1
    · rename_i h
      cases e1
      obtain ⟨h1, h2, h3, h4⟩ := and4 h
      exact .inr ⟨a, b, hv.dp h1, hw.dp h2, h1, h2, h3, fun e => by (subst e; cases h4), res_rd z (.bl _) (qF rfl)⟩
    · cases e1
theorem od_gt : OpD2 .gt (orR (rI0 fun i j => .bl (decide (j < i))) (rLtD K true)) := by
  refine OpD2.mk (fun _ => rfl) (fun _ _ _ => rfl) fun fr roots H Z fp v w a b d Q z hv hw e qF q => ?_
  obtain ⟨c, e1, rfl⟩ := dBool_some e
  unfold dGt at e1
  split at e1
  · cases e1
    cases vw_int hv; cases vw_int hw
    exact .inl ⟨_, _, rfl, rfl, res_rd z (.bl _) (qF rfl)⟩
  · split at e1
    · rename_i h
      cases e1
      obtain ⟨h1, h2, h3, h4⟩ := and4 h
      exact .inr ⟨a, b, hv.dp h1, hw.dp h2, h1, h2, h3, fun e => by (subst e; cases h4), res_rd z (.bl _) (qF rfl)⟩
    · cases e1
theorem od_le : OpD2 .le (rI0 fun i j => .bl (decide (i ≤ j))) := by
  refine OpD2.mk (fun _ => rfl) (fun _ _ _ => rfl) fun fr roots H Z fp v w a b d Q z hv hw e qF q => ?_
  obtain ⟨c, e1, rfl⟩ := dBool_some e
  unfold dLe at e1
  split at e1
  · cases e1
    cases vw_int hv; cases vw_int hw
    exact ⟨_, _, rfl, rfl, res_rd z (.bl _) (qF rfl)⟩
  · cases e1
theorem od_ge : OpD2 .ge (rI0 fun i j => .bl (decide (j ≤ i))) := by
  refine OpD2.mk (fun _ => rfl) (fun _ _ _ => rfl) fun fr roots H Z fp v w a b d Q z hv hw e qF q => ?_
  obtain ⟨c, e1, rfl⟩ := dBool_some e
  unfold dLe at e1
  split at e1
  · cases e1
    cases vw_int hv; cases vw_int hw
    exact ⟨_, _, rfl, rfl, res_rd z (.bl _) (qF rfl)⟩
  · cases e1
/-- a key by its data -/
theorem toK_v {H : Hp} {Z : Addr → Prop} {v : V} {d : D} {k : Key} (h : Vw H Z v d) (e : toK d = some k) : v = kV k ∧ d = kD k := by
  unfold toK at e
  split at e
  · cases e; exact ⟨vw_int h, rfl⟩
  · cases e; exact ⟨vw_str h, rfl⟩
  · cases e
theorem toKs_v {H : Hp} {Z : Addr → Prop} : ∀ {vs : List V} {ds : List D} {ks : List Key}, RdA H Z vs ds → toKs ds = some ks → vs = ks.map kV ∧ ds = ks.map kD
  | _, _, _, .nil, e => by cases e; exact ⟨rfl, rfl⟩
  | _, _, _, .cons h t, e => by
    unfold toKs at e
    obtain ⟨k, e1, e2⟩ := Option.bind_eq_some_iff.mp e
    obtain ⟨ks, e3, rfl⟩ := Option.map_eq_some_iff.mp e2
    obtain ⟨rfl, rfl⟩ := toK_v h.vw e1
    obtain ⟨rfl, rfl⟩ := toKs_v t e3
    exact ⟨rfl, rfl⟩
theorem toKK_v {H : Hp} {Z : Addr → Prop} {v : V} {d : D} {k : KK} (h : Vw H Z v d) (e : toKK d = some k) : (∃ x, k = .k x ∧ v = kV x ∧ d = kD x) ∨ ∃ ks a, k = .t ks ∧ v = .ref a ∧ H a = some (.tup (ks.map kV)) ∧ d = .tuple (ks.map kD) := by
  unfold toKK at e
  split at e
  · rename_i ds
    obtain ⟨ks, e1, rfl⟩ := Option.map_eq_some_iff.mp e
    obtain ⟨a, xs, rfl, h1, r⟩ := h
    obtain ⟨rfl, rfl⟩ := toKs_v r e1
    exact .inr ⟨ks, a, rfl, rfl, h1, rfl⟩
  · obtain ⟨x, e1, rfl⟩ := Option.map_eq_some_iff.mp e
    obtain ⟨h1, h2⟩ := toK_v h e1
    exact .inl ⟨x, rfl, h1, h2⟩
theorem toK_kD (x : Key) : toK (kD x) = some x := by cases x <;> rfl
theorem toKs_kD : ∀ xs : List Key, toKs (xs.map kD) = some xs
  | [] => rfl
  | x :: xs => by simp [toKs, toK_kD, toKs_kD xs]
theorem toKK_kD (x : Key) : toKK (kD x) = some (.k x) := by cases x <;> rfl
theorem toKK_tD (xs : List Key) : toKK (.tuple (xs.map kD)) = some (.t xs) := by
  show (toKs (xs.map kD)).map KK.t = _
  rw [toKs_kD]
  rfl
/-- what a dict of int and text keys holds at a key -/
theorem dGet_K {H : Hp} {Z : Addr → Prop} : ∀ {kvs : List (Key × V)} {es : List (D × D)} (k : Key), RdE H Z (kvs.map eK) es →
    (∃ v d, valV kvs k = some v ∧ dGet es (.k k) = some d ∧ Rd H Z v d) ∨ (valV kvs k = none ∧ dGet es (.k k) = none)
  | [], _, k, r => by cases r; exact .inr ⟨rfl, rfl⟩
  | (k', v) :: kvs, _, k, r => by
    cases r with
    | @cons _ _ _ d ds h t =>
      by_cases e : k' = k
      · subst e
        refine .inl ⟨v, d, by simp [valV], ?_, h⟩
        simp [dGet, keyIsD, toKK_kD]
      · have h1 : valV ((k', v) :: kvs) k = valV kvs k := by simp [valV, List.find?_cons, e]
        have h2 : dGet ((kD k', d) :: ds) (.k k) = dGet ds (.k k) := by simp [dGet, keyIsD, List.find?_cons, toKK_kD, e]
        rw [h1]
        show (∃ v d', _ ∧ dGet ((kD k', d) :: ds) (.k k) = some d' ∧ _) ∨ (_ ∧ dGet ((kD k', d) :: ds) (.k k) = none)
        rw [h2]
        exact dGet_K k t
theorem dGet_T {H : Hp} {Z : Addr → Prop} : ∀ {kvs : List (List Key × V)} {es : List (D × D)} (k : List Key), RdE H Z (kvs.map eT) es →
    (∃ v d, valV kvs k = some v ∧ dGet es (.t k) = some d ∧ Rd H Z v d) ∨ (valV kvs k = none ∧ dGet es (.t k) = none)
  | [], _, k, r => by cases r; exact .inr ⟨rfl, rfl⟩
  | (k', v) :: kvs, _, k, r => by
    cases r with
    | @cons _ _ _ d ds h t =>
      by_cases e : k' = k
      · subst e
        refine .inl ⟨v, d, by simp [valV], ?_, h⟩
        simp [dGet, keyIsD, toKK_tD]
      · have h1 : valV ((k', v) :: kvs) k = valV kvs k := by simp [valV, List.find?_cons, e]
        have h2 : dGet ((.tuple (k'.map kD), d) :: ds) (.t k) = dGet ds (.t k) := by simp [dGet, keyIsD, List.find?_cons, toKK_tD, e]
        rw [h1]
        show (∃ v d', _ ∧ dGet ((.tuple (k'.map kD), d) :: ds) (.t k) = some d' ∧ _) ∨ (_ ∧ dGet ((.tuple (k'.map kD), d) :: ds) (.t k) = none)
        rw [h2]
        exact dGet_T k t
/-- a key of the other kind is not there -/
theorem dGet_KT {H : Hp} {Z : Addr → Prop} : ∀ {kvs : List (Key × V)} {es : List (D × D)} (k : List Key), RdE H Z (kvs.map eK) es → dGet es (.t k) = none
  | [], _, k, r => by cases r; rfl
  | (k', v) :: kvs, _, k, r => by
    cases r with
    | @cons _ _ _ d ds h t =>
      have h2 : dGet ((kD k', d) :: ds) (.t k) = dGet ds (.t k) := by simp [dGet, keyIsD, List.find?_cons, toKK_kD]
      show dGet ((kD k', d) :: ds) (.t k) = none
      rw [h2]
      exact dGet_KT k t
theorem dGet_TK {H : Hp} {Z : Addr → Prop} : ∀ {kvs : List (List Key × V)} {es : List (D × D)} (k : Key), RdE H Z (kvs.map eT) es → dGet es (.k k) = none
  | [], _, k, r => by cases r; rfl
  | (k', v) :: kvs, _, k, r => by
    cases r with
    | @cons _ _ _ d ds h t =>
      have h2 : dGet ((.tuple (k'.map kD), d) :: ds) (.k k) = dGet ds (.k k) := by simp [dGet, keyIsD, List.find?_cons, toKK_tD]
      show dGet ((.tuple (k'.map kD), d) :: ds) (.k k) = none
      rw [h2]
      exact dGet_TK k t
end
end Dt
end
section
set_option Elab.async false
set_option linter.all false
set_option maxRecDepth 100000
set_option maxHeartbeats 4000000
/-! The rest of the operations. -/
namespace Dt
open PySem PySem.Spec PyProof.Rows L2
theorem RdA.vwa {H : Hp} {Z : Addr → Prop} {a : Addr} {xs : List V} {ds : List D} (h : LstAt H a xs) (r : RdA H Z xs ds) : Vw H Z (.ref a) (.list ds) := ⟨a, xs, rfl, h, r⟩
section
variable {X : Cx}
/-! ### is None, is True -/
def rIsN : V → Hp → VK → Prop := fun x H Q => Q (.bl (decide (x = .non))) H
def rNotN : V → Hp → VK → Prop := fun x H Q => Q (.bl (!decide (x = .non))) H
theorem vw_none {H : Hp} {Z : Addr → Prop} {v : V} {a : D} (h : Vw H Z v a) : decide (v = .non) = isNone a := by
  cases a with
  | none => cases (show v = .non from h); rfl
  | bool b => cases (show v = .bl b from h); rfl
  | int b => cases (show v = .int b from h); rfl
  | str b => cases (show v = .str b from h); rfl
  | list ds => obtain ⟨a, xs, rfl, _⟩ := h; rfl
  | tuple ds => obtain ⟨a, xs, rfl, _⟩ := h; rfl
  | dict ds => obtain ⟨a, rfl, _⟩ := h; rfl
theorem od_isN : OpD1 .isN rIsN := by
  refine OpD1.mk (fun _ _ => rfl) (fun _ _ _ => rfl) fun fr roots H Z fp v a d Q z hv e qF q => ?_
  cases (Option.some.inj (show some (PyData.bool (isNone a)) = some d from e))
  show Q (.bl (decide (v = .non))) H
  rw [vw_none hv]
  exact res_rd z (.bl _) (qF rfl)
theorem od_notN : OpD1 .notN rNotN := by
  refine OpD1.mk (fun _ _ => rfl) (fun _ _ _ => rfl) fun fr roots H Z fp v a d Q z hv e qF q => ?_
  cases (Option.some.inj (show some (PyData.bool (!isNone a)) = some d from e))
  show Q (.bl (!decide (v = .non))) H
  rw [vw_none hv]
  exact res_rd z (.bl _) (qF rfl)
theorem od_isB : OpD2 .isB rIsB := by
  refine OpD2.mk (fun _ => rfl) (fun _ _ _ => rfl) fun fr roots H Z fp v w a b d Q z hv hw e qF q => ?_
  obtain ⟨c, e1, rfl⟩ := dBool_some e
  unfold fIsB at e1
  split at e1
  · cases e1
    cases vw_bl hv; cases vw_bl hw
    refine ⟨_, _, rfl, rfl, ?_⟩
    rw [← Bool.beq_eq_decide_eq]
    exact res_rd z (.bl _) (qF rfl)
  · cases e1
theorem od_notB : OpD2 .notB rNotB := by
  refine OpD2.mk (fun _ => rfl) (fun _ _ _ => rfl) fun fr roots H Z fp v w a b d Q z hv hw e qF q => ?_
  obtain ⟨c, e1, rfl⟩ := dBool_some e
  obtain ⟨c', e2, rfl⟩ := Option.map_eq_some_iff.mp e1
  unfold fIsB at e2
  split at e2
  · cases e2
    cases vw_bl hv; cases vw_bl hw
    refine ⟨_, _, rfl, rfl, ?_⟩
    rw [← Bool.beq_eq_decide_eq]
    exact res_rd z (.bl _) (qF rfl)
  · cases e2
/-! ### in -/
theorem Vw.dpL {K : PySem.W.Frag} {H : Hp} {Z : Addr → Prop} {v : V} {ds : List D} (h : Vw H Z v (.list ds) ∨ Vw H Z v (.tuple ds)) (k : okD (.list ds) = true ∨ okD (.tuple ds) = true) : Dp K H v (.list ds) ∨ Dp K H v (.tuple ds) := by
  have k0 : PyData.canLayAll0 ds = true := by
    rcases k with k | k
    · exact layAll k
    · have := SeqAt.canLay_of_shaped k
      simpa [PyData.canLay0] using this
  rcases h with ⟨a, xs, rfl, l, r⟩ | ⟨a, xs, rfl, l, r⟩
  · exact .inl (.lst l.sq (r.dp k0))
  · exact .inr (.tup (.inl (.inl l)) (r.dp k0))
theorem okD_tl {ds : List D} : okD (.tuple ds) = okD (.list ds) := by
  unfold okD
  unfold SeqAt.shaped
  first | rfl | simp [SeqAt.shaped]
theorem key_get {H : Hp} {Z : Addr → Prop} {v w : V} {x : D} {es : List (D × D)} {k : KK} (hx : Vw H Z v x) (hd : Vw H Z w (.dict es)) (e : toKK x = some k) (ok : kindOk es k = true) :
    ∃ a o, w = .ref a ∧ DGet H a v o ∧ ((o = none ∧ dGet es k = none) ∨ ∃ u d, o = some u ∧ dGet es k = some d ∧ L2.Rd H a (.lst []) = L2.Rd H a (.lst []) ∧ Dt.Rd H Z u d) := by
  obtain ⟨a, rfl, hd⟩ := hd
  rcases toKK_v hx e with ⟨y, rfl, rfl, rfl⟩ | ⟨ks, b, rfl, rfl, hb, rfl⟩
  · rcases hd with ⟨kvs, h1, r⟩ | ⟨kvs, n, h1, r⟩
    · refine ⟨a, _, rfl, .k h1, ?_⟩
      rcases dGet_K y r with ⟨u, d, e1, e2, r2⟩ | ⟨e1, e2⟩
      · exact .inr ⟨u, d, e1, e2, rfl, r2⟩
      · exact .inl ⟨e1, e2⟩
    · exfalso
      cases kvs with
      | nil => exact n rfl
      | cons p r1 =>
        obtain ⟨ky, vy⟩ := p
        cases r
        cases ok
  · rcases hd with ⟨kvs, h1, r⟩ | ⟨kvs, n, h1, r⟩
    · exfalso
      cases kvs with
      | nil => cases r; cases ok
      | cons p r1 =>
        obtain ⟨ky, vy⟩ := p
        cases r
        cases ky <;> cases ok
    · refine ⟨a, _, rfl, .t h1 hb, ?_⟩
      rcases dGet_T ks r with ⟨u, d, e1, e2, r2⟩ | ⟨e1, e2⟩
      · exact .inr ⟨u, d, e1, e2, rfl, r2⟩
      · exact .inl ⟨e1, e2⟩
theorem dIn_some {x y : D} {c : Bool} (e : dIn x y = some c) : (∃ ds, (y = .list ds ∨ y = .tuple ds) ∧ okD x = true ∧ okD (.list ds) = true ∧ c = ds.any fun z => PyData.eqv z x) ∨
    ∃ es k, y = .dict es ∧ toKK x = some k ∧ kindOk es k = true ∧ c = (dGet es k).isSome := by
  unfold dIn at e
  split at e
  · rename_i ds
    split at e
    · rename_i h
      obtain ⟨h1, h2⟩ := Bool.and_eq_true_iff.mp h
      exact .inl ⟨ds, .inl rfl, h1, h2, (Option.some.inj e).symm⟩
    · cases e
  · rename_i ds
    split at e
    · rename_i h
      obtain ⟨h1, h2⟩ := Bool.and_eq_true_iff.mp h
      exact .inl ⟨ds, .inr rfl, h1, okD_tl ▸ h2, (Option.some.inj e).symm⟩
    · cases e
  · rename_i es
    obtain ⟨k, e1, e2⟩ := Option.bind_eq_some_iff.mp e
    split at e2
    · exact .inr ⟨es, k, rfl, e1, by assumption, (Option.some.inj e2).symm⟩
    · cases e2
  · cases e
theorem in_core {K : PySem.W.Frag} {neg : Bool} {H : Hp} {Z : Addr → Prop} {v w : V} {x y : D} {c : Bool} {Q : VK} (hv : Vw H Z v x) (hw : Vw H Z w y) (e : dIn x y = some c) (q : Q (.bl (if neg then !c else c)) H) :
    orR (rInS K neg) (rInDc neg) v w H Q := by
  rcases dIn_some e with ⟨ds, hy, h1, h2, rfl⟩ | ⟨es, k, rfl, e1, e2, rfl⟩
  · refine .inl ⟨x, ds, hv.dp h1, ?_, h1, h2, q⟩
    rcases hy with rfl | rfl
    · exact Vw.dpL (.inl hw) (.inl h2)
    · exact Vw.dpL (.inr hw) (.inl h2)
  · obtain ⟨a, o, rfl, g, h⟩ := key_get hv hw e1 e2
    refine .inr ⟨a, o, rfl, g, ?_⟩
    rcases h with ⟨rfl, e3⟩ | ⟨u, d, rfl, e3, _⟩
    · rw [e3] at q; exact q
    · rw [e3] at q; exact q
theorem od_isIn {K : PySem.W.Frag} : OpD2 .isIn (orR (rInS K false) (rInDc false)) := by
  refine OpD2.mk (fun _ => rfl) (fun _ _ _ => rfl) fun fr roots H Z fp v w a b d Q z hv hw e qF q => ?_
  obtain ⟨c, e1, rfl⟩ := dBool_some e
  exact in_core hv hw e1 (res_rd z (.bl _) (qF rfl))
theorem od_notIn {K : PySem.W.Frag} : OpD2 .notIn (orR (rInS K true) (rInDc true)) := by
  refine OpD2.mk (fun _ => rfl) (fun _ _ _ => rfl) fun fr roots H Z fp v w a b d Q z hv hw e qF q => ?_
  obtain ⟨c, e1, rfl⟩ := dBool_some e
  obtain ⟨c', e2, rfl⟩ := Option.map_eq_some_iff.mp e1
  exact in_core (neg := true) hv hw e2 (res_rd z (.bl _) (qF rfl))
/-! ### a[b] -/
def rIxD : R2 := fun x y H Q => ∃ a v, x = .ref a ∧ DGet H a y (some v) ∧ Q v H
theorem ix_dict (hu : X.A.units + 1 < cLine) : IxR X rIxD := by
  intro value slice pins s σ H x y v u Q I rx ry ⟨a, z, e, g, q⟩ hs
  subst e
  cases rx
  exact tail_any (dict_typeIs I g) PySem.F.slot_dict_getitem.lookup (d_getItem hu I g ry fun w' s3 I3 rw' => ⟨z, H, I3, rw', q⟩) hs
theorem ixN_eq (n : Nat) (i : Int) : ixD n i = ixN n i := rfl
theorem at_get {H : Hp} {Z : Addr → Prop} {xs : List V} {ds : List D} {i : Int} {d : D} (r : RdA H Z xs ds) (e : atD ds i = some d) : ∃ v, atI xs i = some v ∧ Dt.Rd H Z v d := by
  obtain ⟨j, e1, e2⟩ := Option.bind_eq_some_iff.mp e
  obtain ⟨v, e3, r3⟩ := r.get e2
  refine ⟨v, ?_, r3⟩
  show (ixN xs.length i).bind (fun j => xs[j]?) = some v
  rw [r.length, ← ixN_eq, e1]
  exact e3
theorem od_idx {K : PySem.W.Frag} : OpD2 .idx (orR (rIxL K) (orR (rIxT K) rIxD)) := by
  refine OpD2.mk (fun _ => rfl) (fun _ _ _ => rfl) fun fr roots H Z fp v w a b d Q z hv hw e qF q => ?_
  have e : fIdx a b = some d := e
  have qF : Wish roots Q d .F := qF (by cases d <;> rfl)
  unfold fIdx at e
  split at e
  · cases vw_int hw
    obtain ⟨l, us, rfl, hl, r1⟩ := hv
    obtain ⟨u, e1, r2⟩ := at_get r1 e
    exact .inl ⟨l, us, _, u, rfl, rfl, hl.sq, e1, res_rd z r2 qF⟩
  · cases vw_int hw
    obtain ⟨l, us, rfl, hl, r1⟩ := hv
    obtain ⟨u, e1, r2⟩ := at_get r1 e
    exact .inr (.inl ⟨l, us, _, u, rfl, rfl, .inl (.inl hl), e1, res_rd z r2 qF⟩)
  · rename_i es k
    obtain ⟨kk, e1, e2⟩ := Option.bind_eq_some_iff.mp e
    by_cases ok : kindOk es kk = true
    case neg => rw [if_neg ok] at e2; cases e2
    rw [if_pos ok] at e2
    obtain ⟨a, o, rfl, g, h⟩ := key_get hw hv e1 ok
    rcases h with ⟨rfl, e3⟩ | ⟨u, d', rfl, e3, _, r⟩
    · rw [e3] at e2; cases e2
    · rw [e3] at e2; cases e2
      exact .inr (.inr ⟨a, u, rfl, g, res_rd z r qF⟩)
  · cases e
/-! ### a[lo:hi] -/
def rSl (K : PySem.W.Frag) (x : V) (lo hi : Option Int) (H : Hp) (Q : VK) : Prop := rSlL K x lo hi H Q ∨ rSlA K x lo hi H Q
theorem sl_rSl : SlR X (rSl X.K) := sl_list.or sl_tupA
theorem sl_core {K : PySem.W.Frag} {H : Hp} {Z : Addr → Prop} {fp : List Addr} {roots : List Root} {v : V} {a d : D} {lo hi : Option Int} {Q : VK} {fr : Bool} {o : Op} (z : RepZ roots H Z fp) (hv : Vw H Z v a) (e : cutsD a lo hi = some d)
    (qF : frD o d = false → Wish roots Q d .F) (ho : ∀ xs, frD o (.tuple xs) = false) (q : Wish roots Q d (rmO fr)) : rSl K v lo hi H Q := by
  unfold cutsD at e
  split at e
  · rename_i xs
    cases e
    obtain ⟨l, us, rfl, hl, r1⟩ := hv
    refine .inl ⟨l, us, rfl, hl.sq, ?_⟩
    refine res_newL z ?_ q
    unfold cutD L2.cutV
    rw [r1.length]
    exact (r1.drop _).take _
  · rename_i xs
    cases e
    have qF := qF (ho _)
    obtain ⟨l, us, rfl, hl, r1⟩ := hv
    refine .inr ⟨l, us, rfl, .inl (.inl hl), fun ⟨h1, h2⟩ => ?_, fun _ => ?_⟩
    · have : cutD xs lo hi = xs := by
        unfold cutD
        rw [← r1.length, h1, h2, List.drop_zero, Nat.sub_zero]
        exact List.take_of_length_le (by rw [r1.length]; exact Nat.le_refl _)
      rw [this] at qF
      exact res_rd z (.tup hl r1) qF
    · refine res_newT z ?_ qF
      unfold cutD L2.cutV
      rw [r1.length]
      exact (r1.drop _).take _
  · cases e
def r3Sl (K : PySem.W.Frag) : List V → Hp → VK → Prop := fun vs H Q => match vs with
  | [x, l, u] => ∃ i j, l = .int i ∧ u = .int j ∧ rSl K x (some i) (some j) H Q
  | _ => False
def r2SlL (K : PySem.W.Frag) : R2 := fun x l H Q => ∃ i, l = .int i ∧ rSl K x (some i) none H Q
def r2SlH (K : PySem.W.Frag) : R2 := fun x l H Q => ∃ i, l = .int i ∧ rSl K x none (some i) H Q
theorem od_sliceL {K : PySem.W.Frag} : OpD2 .sliceL (r2SlL K) := by
  refine OpD2.mk (fun _ => rfl) (fun _ _ _ => rfl) fun fr roots H Z fp v w a b d Q z hv hw e qF q => ?_
  have e : fSliceL a b = some d := e
  unfold fSliceL at e
  split at e
  · cases vw_int hw
    exact ⟨_, rfl, sl_core z hv e qF (fun _ => rfl) q⟩
  · cases e
theorem od_sliceH {K : PySem.W.Frag} : OpD2 .sliceH (r2SlH K) := by
  refine OpD2.mk (fun _ => rfl) (fun _ _ _ => rfl) fun fr roots H Z fp v w a b d Q z hv hw e qF q => ?_
  have e : fSliceH a b = some d := e
  unfold fSliceH at e
  split at e
  · cases vw_int hw
    exact ⟨_, rfl, sl_core z hv e qF (fun _ => rfl) q⟩
  · cases e
theorem od_slice {K : PySem.W.Frag} : OpD .slice (r3Sl K) := by
  intro fr roots H Z fp vs ds d Q z hv e q
  have e1 := opR_any e
  have e2 : ∃ a b c, ds = [a, b, c] ∧ fSlice a b c = some d := by
    match ds, e1 with
    | [], e => cases e
    | [a], e => cases e
    | [a, b], e => cases e
    | [a, b, c], e => exact ⟨a, b, c, rfl, e⟩
    | a :: b :: c :: f :: r, e => cases e
  obtain ⟨a, b, c, rfl, e2⟩ := e2
  obtain ⟨x, l, u, rfl, h1, h2, h3⟩ := hv.three
  unfold fSlice at e2
  split at e2
  · cases vw_int h2
    cases vw_int h3
    exact ⟨_, _, rfl, rfl, sl_core z h1 e2 (fun n => wish_F e n q) (fun _ => rfl) q⟩
  · cases e2
/-- the rules by their parts -/
theorem pe_sl3 {a lo hi : Expr} {ta tl tu : TE} {p2 pos : Pos} (ha : PE X a ta) (hl : PE X lo tl) (hu : PE X hi tu) :
    PE X (.Subscript a (.Slice (some lo) (some hi) none p2) pos) (fun σ H Q => ta σ H fun x H1 => tl σ H1 fun l H2 => tu σ H2 fun u H3 => r3Sl X.K [x, l, u] H3 Q) := by
  refine ⟨fun pins s σ H Q I h => ?_⟩
  refine Subscript_ (thn (ha.run pins s σ H _ I h) fun v s1 ⟨x, H1, I1, r1, q1⟩ => wpAny_Slice ?_)
  rw [evalPart_some]
  refine thn (hl.run pins s1 σ H1 _ I1 q1) fun vl s2 ⟨l, H2, I2, pl, q2⟩ => ?_
  rw [evalPart_some]
  refine thn (hu.run pins s2 σ H2 _ I2 q2) fun vu s3 ⟨u, H3, I3, pu, i, j, e1, e2, q3⟩ => ?_
  rw [evalPart_none]
  refine wpAny_pure ?_
  subst e1 e2
  obtain ⟨t1, rfl⟩ := pl
  obtain ⟨t2, rfl⟩ := pu
  have I4 : Inv X pins σ H3 { s3 with heap := s3.heap.push { cls := .type "slice", data := .fields #[.int i t1, .int j t2, .none] } } := I3.kept (t' := s3.toks) fun b ob q => Heap.get?_push_of_some _ q
  obtain ⟨T, id, hT, ht, hg⟩ := sl_rSl pins _ σ H3 x v (.int i t1) (.int j t2) (some i) (some j) s3.heap.objs.size Q I4 r1 (Heap.IsSliceOf.new ..) (.int i t1) (.int j t2) q3
  exact tail_any (ops := [.ref s3.heap.objs.size, v]) ht hT hg (by with_unfolding_all rfl)
theorem pe_slL {a lo : Expr} {ta tl : TE} {p2 pos : Pos} (ha : PE X a ta) (hl : PE X lo tl) :
    PE X (.Subscript a (.Slice (some lo) none none p2) pos) (tOp (r2SlL X.K) ta tl) := by
  refine ⟨fun pins s σ H Q I h => ?_⟩
  refine Subscript_ (thn (ha.run pins s σ H _ I h) fun v s1 ⟨x, H1, I1, r1, q1⟩ => wpAny_Slice ?_)
  rw [evalPart_some]
  refine thn (hl.run pins s1 σ H1 _ I1 q1) fun vl s2 ⟨l, H2, I2, pl, i, e1, q3⟩ => ?_
  rw [evalPart_none]
  refine wpAny_pure (wpAny_pure ?_)
  subst e1
  obtain ⟨t1, rfl⟩ := pl
  have I4 : Inv X pins σ H2 { s2 with heap := s2.heap.push { cls := .type "slice", data := .fields #[.int i t1, .none, .none] } } := I2.kept (t' := s2.toks) fun b ob q => Heap.get?_push_of_some _ q
  obtain ⟨T, id, hT, ht, hg⟩ := sl_rSl pins _ σ H2 x v (.int i t1) .none (some i) none s2.heap.objs.size Q I4 r1 (Heap.IsSliceOf.new ..) (.int i t1) .none q3
  exact tail_any (ops := [.ref s2.heap.objs.size, v]) ht hT hg (by with_unfolding_all rfl)
theorem pe_slH {a hi : Expr} {ta tl : TE} {p2 pos : Pos} (ha : PE X a ta) (hl : PE X hi tl) :
    PE X (.Subscript a (.Slice none (some hi) none p2) pos) (tOp (r2SlH X.K) ta tl) := by
  refine ⟨fun pins s σ H Q I h => ?_⟩
  refine Subscript_ (thn (ha.run pins s σ H _ I h) fun v s1 ⟨x, H1, I1, r1, q1⟩ => wpAny_Slice ?_)
  rw [evalPart_none]
  refine wpAny_pure ?_
  rw [evalPart_some]
  refine thn (hl.run pins s1 σ H1 _ I1 q1) fun vl s2 ⟨l, H2, I2, pl, i, e1, q3⟩ => ?_
  refine wpAny_pure ?_
  subst e1
  obtain ⟨t1, rfl⟩ := pl
  have I4 : Inv X pins σ H2 { s2 with heap := s2.heap.push { cls := .type "slice", data := .fields #[.none, .int i t1, .none] } } := I2.kept (t' := s2.toks) fun b ob q => Heap.get?_push_of_some _ q
  obtain ⟨T, id, hT, ht, hg⟩ := sl_rSl pins _ σ H2 x v .none (.int i t1) none (some i) s2.heap.objs.size Q I4 r1 (Heap.IsSliceOf.new ..) .none (.int i t1) q3
  exact tail_any (ops := [.ref s2.heap.objs.size, v]) ht hT hg (by with_unfolding_all rfl)
/-! ### a[::-1] -/
def rRev (K : PySem.W.Frag) : V → Hp → VK → Prop := fun x H Q => (∃ a xs, x = .ref a ∧ SqL K H a xs ∧ ∀ p, H p = none → Q (.ref p) (upd H p (.lst xs.reverse))) ∨
  ∃ a xs, x = .ref a ∧ SqT K H a xs ∧ ∀ p, H p = none → Q (.ref p) (upd H p (.tup xs.reverse))
theorem od_rev {K : PySem.W.Frag} : OpD1 .rev (rRev K) := by
  refine OpD1.mk (fun _ _ => rfl) (fun _ _ _ => rfl) fun fr roots H Z fp v a d Q z hv e qF q => ?_
  have e : fRev a = some d := e
  unfold fRev at e
  split at e
  · cases e
    obtain ⟨l, us, rfl, hl, r1⟩ := hv
    exact .inl ⟨l, us, rfl, hl.sq, res_newL z r1.reverse q⟩
  · cases e
    obtain ⟨l, us, rfl, hl, r1⟩ := hv
    exact .inr ⟨l, us, rfl, .inl (.inl hl), res_newT z r1.reverse (qF rfl)⟩
  · cases e
theorem revPlaces (n : Nat) : Builtin.Slice.slicePlaces ((n : Int) - 1) (-1) (-1) = n := by
  unfold Builtin.Slice.slicePlaces
  rw [if_neg (by decide)]
  have e : (- -1 : Int) = 1 := by decide
  rw [e, Int.ediv_one]
  by_cases h : (n : Int) - 1 > -1
  · rw [if_pos h]; omega
  · rw [if_neg h]; omega
theorem revPick (items : Array Value) : ((List.range items.size).filterMap fun (k : Nat) => items[(((items.size : Int) - 1) + (k : Int) * (-1)).toNat]?).toArray = items.toList.reverse.toArray := by
  rw [← PySem.W.krv_pick items]
  unfold slicePick
  rw [PySem.W.krv_bounds]
  show _ = ((sliceRange ((items.size : Int) - 1) (-1) (-1)).filterMap (items[·]?)).toArray
  rw [PySem.W.krv_sliceRange, List.filterMap_map]
  congr 1
  have aux : ∀ (l : List Nat) (f g : Nat → Option Value), (∀ k ∈ l, f k = g k) → l.filterMap f = l.filterMap g := by
    intro l f g
    induction l with
    | nil => intro _; rfl
    | cons x l ih => intro h; rw [List.filterMap_cons, List.filterMap_cons, h x (List.mem_cons_self ..), ih fun k m => h k (List.mem_cons_of_mem _ m)]
  refine aux _ _ _ fun k hk => ?_
  have h := List.mem_range.mp hk
  show items[(((items.size : Int) - 1) + (k : Int) * (-1)).toNat]? = items[items.size - 1 - k]?
  have e : (((items.size : Int) - 1) + (k : Int) * (-1)).toNat = items.size - 1 - k := by omega
  rw [e]
theorem revApplied {prog : Program} {w : World} {A : Around} {E : Value → Shared → Prop} {s : Shared} {sl : Addr} {n : Nat} {vl vu vs : Value} {R : Int × Int × Nat → Shared → Prop} (hs : s.heap.IsSliceOf sl vl vu vs)
    (pl : IsPart vl none) (pu : IsPart vu none) (ps : IsPart vs (some (-1))) (h : R ((n : Int) - 1, -1, n) s) : wpAny (model prog w) A (Builtin.Slice.sliceApplied (.ref sl) (pure (n : Int))) R E s := by
  obtain ⟨os, ho1, ho2, ho3⟩ := hs
  unfold Builtin.Slice.sliceApplied Builtin.Slice.sliceFields
  refine wpAny_bind (wpAny_bind (wpAny_field ho1 ho3 (x := vl) rfl (wpAny_bind (wpAny_field ho1 ho3 (x := vu) rfl (wpAny_bind (wpAny_field ho1 ho3 (x := vs) rfl (wpAny_pure ?_)))))))
  refine wpAny_bind (HT.slicePart_ ps ?_)
  show wpAny _ _ (if ((-1 : Int) == 0) = true then _ else _) _ _ s
  rw [if_neg (by decide)]
  refine wpAny_bind (HT.slicePart_ pl (wpAny_bind (HT.slicePart_ pu (wpAny_bind (wpAny_pure ?_)))))
  show wpAny _ _ (pure ((n : Int) - 1, (-1 : Int), Builtin.Slice.slicePlaces ((n : Int) - 1) (-1) (-1))) _ _ s
  rw [revPlaces]
  exact wpAny_pure h
theorem revTuple {prog : Program} {w : World} {A : Around} {E : Value → Shared → Prop} {s : Shared} {t sl : Addr} {items : Array Value} {vl vu vs : Value} {Q : Value → Shared → Prop} (ht : IsTup s.heap t items) (hs : s.heap.IsSliceOf sl vl vu vs)
    (pl : IsPart vl none) (pu : IsPart vu none) (ps : IsPart vs (some (-1)))
    (h : Q (.ref s.heap.objs.size) { s with heap := s.heap.push { cls := .type "tuple", data := .seq items.toList.reverse.toArray } }) (hsz : items.size ≤ sizeLine) : wpAny (model prog w) A (getItem (.ref t) (.ref sl)) Q E s := by
  obtain ⟨os, ho1, ho2, ho3⟩ := id hs
  have hsz2 : sizeOk (.seq items.toList.reverse.toArray) := by
    show items.toList.reverse.toArray.size ≤ sizeLine
    rw [List.size_toArray, List.length_reverse, Array.length_toList]
    exact hsz
  unfold getItem
  try with_reducible refine wpAny_holding ?_
  first | refine wpAny_bind (wpAny_pure ?_) | skip
  refine wpAny_bind (wpAny_sequenceKey ht.typeIs (by decide) ?_)
  refine wpAny_bind (wpAny_callSpecial?_slot (name := Str.ofString "__getitem__") ht.typeIs PyProof.Rows.slot_tuple_getitem (wpAny_call_entry PyProof.Rows.slot_tuple_getitem ht.typeIs PyProof.Rows.entry_tuple_getitem ?_ (PyProof.Rows.args_tuple_getitem _ _)))
  show wpAny _ _ (Builtin.Tuple.tupleItemsOf (.ref t) >>= _) _ _ s
  refine wpAny_bind (tupleItemsOf_ ht (wpAny_bind (wpAny_typeOf (⟨os, ho1, ho2⟩ : s.TypeIs (.ref sl) "slice") ?_)))
  rw [if_pos (by decide)]
  refine wpAny_bind (revApplied hs pl pu ps ?_)
  have hno : ¬ ((((items.size : Int) - 1) == 0 && (-1 : Int) == 1 && items.size == items.size) = true) := by
    intro q
    rw [Bool.and_eq_true, Bool.and_eq_true] at q
    exact absurd q.1.2 (by decide)
  show wpAny _ _ (if (((items.size : Int) - 1) == 0 && (-1 : Int) == 1 && items.size == items.size) = true then _ else _) _ _ s
  rw [if_neg hno, revPick]
  first
    | exact wpAny_bind (m := Builtin.Tuple.tupleExact _) (wpAny_newObj_type (wpAny_pure ⟨_, rfl, wpAny_pure h⟩) hsz2)
    | exact wpAny_bind (m := Builtin.Tuple.tupleExact _) (wpAny_newObj_type (wpAny_bind (wpAny_pure (wpAny_pure ⟨_, rfl, wpAny_pure h⟩))) hsz2)
    | exact wpAny_bind (wpAny_bind (m := Builtin.Tuple.tupleExact _) (wpAny_newObj_type (wpAny_pure (wpAny_pure ⟨_, rfl, wpAny_pure h⟩)) hsz2))
    | exact wpAny_bind (wpAny_bind (m := Builtin.Tuple.tupleExact _) (wpAny_newObj_type (wpAny_pure ⟨_, rfl, wpAny_pure h⟩) hsz2))
theorem pe_rev {e : Expr} {te : TE} {k : Nat} {p1 p2 p3 pos : Pos} (he : PE X e te) : PE X (.Subscript e (.Slice none none (some (.UnaryOp .USub (.Constant (.int 1) k p1) p2)) p3) pos) (tUn (rRev X.K) te) := by
  refine ⟨fun pins s σ H Q I h => ?_⟩
  refine Subscript_ (thn (he.run pins s σ H _ I h) fun v s1 ⟨x, H1, I1, r1, q1⟩ => wpAny_Slice ?_)
  rw [evalPart_none]
  refine wpAny_pure (wpAny_pure ?_)
  rw [evalPart_some]
  refine thn ((pe_un un_neg pe_int : PE X (.UnaryOp .USub (.Constant (.int 1) k p1) p2) _).run pins s1 σ H1 (fun y H2 => y = .int (-1) ∧ H2 = H1) I1 ⟨1, rfl, rfl, rfl⟩) fun vs s2 ⟨y, H2, I2, r2, e1, e2⟩ => ?_
  subst e1 e2
  obtain ⟨tk, rfl⟩ := r2
  have I5 : Inv X pins σ H2 { s2 with heap := s2.heap.push { cls := .type "slice", data := .fields #[.none, .none, .int (-1) tk] } } := I2.kept (t' := s2.toks) fun b ob q => Heap.get?_push_of_some _ q
  rcases q1 with ⟨a, xs, rfl, hx, q⟩ | ⟨a, xs, rfl, hx, q⟩
  · cases r1
    obtain ⟨its, r, ht, hz⟩ := I5.list hx
    have hlen := r.length
    refine tail_any (ops := [.ref a, .ref s2.heap.objs.size]) ht.isList.typeIs (PySem.slot_list_getitem.lookup) ?_ (by with_unfolding_all rfl)
    refine wpAny_getItem_list_slice ht.isList (Heap.IsSliceOf.new ..) .none .none (.int (-1) tk) (by decide) ?_ (by rw [List.size_toArray]; omega)
    rw [PySem.W.krv_pick]
    exact ⟨.ref _, _, I5.laid (t' := s2.toks) (o := .lst xs.reverse) (fun b ob q => Heap.get?_push_of_some _ q) (Nat.le_refl _) ⟨by rw [List.length_reverse]; exact hz, _, 0, r.reverse, Heap.get?_push_size _ rfl⟩, rfl, q _ (I5.hok.fresh (Nat.le_refl _))⟩
  · cases r1
    obtain ⟨its, r, ht, hz⟩ := I5.tuple hx
    have hlen := r.length
    refine tail_any (ops := [.ref a, .ref s2.heap.objs.size]) ht.typeIs PyProof.Rows.slot_tuple_getitem.lookup ?_ (by with_unfolding_all rfl)
    refine revTuple ht (Heap.IsSliceOf.new ..) .none .none (.int (-1) tk) ?_ (by rw [List.size_toArray]; omega)
    exact ⟨.ref _, _, I5.laid (t' := s2.toks) (o := .tup xs.reverse) (fun b ob q => Heap.get?_push_of_some _ q) (Nat.le_refl _) ⟨by rw [List.length_reverse]; exact hz, _, r.reverse, IsTup.new _ _⟩, rfl, q _ (I5.hok.fresh (Nat.le_refl _))⟩
end
end Dt
end
section
set_option Elab.async false
set_option linter.all false
set_option maxRecDepth 100000
set_option maxHeartbeats 4000000
/-! The built-in functions. -/
namespace Dt
open PySem PySem.Spec PyProof.Rows L2
theorem len_le {H : Hp} {Z : Addr → Prop} {xs : List V} {ds : List D} (r : RdA H Z xs ds) : (ds.length : Int) = (xs.length : Int) := by rw [r.length]
section
variable {X : Cx}
def rLen (K : PySem.W.Frag) : List V → Hp → VK → Prop := fun xs H Q => (∃ x n, xs = [x] ∧ LenV K x H n ∧ Q (.int n) H) ∨ (∃ a kvs, xs = [.ref a] ∧ L2.Rd H a (.dK kvs) ∧ Q (.int kvs.length) H) ∨ rLenT xs H Q
theorem cr_len : CallR X (.builtin "len") (rLen X.K) := by
  intro pins s σ H xs us Q I rv h
  rcases h with h | ⟨a, kvs, rfl, e, q⟩ | h
  · exact call_len pins s σ H xs us Q I rv h
  · obtain ⟨u, rfl, rx⟩ := vals1 rv
    cases rx
    exact d_len I e fun t s' I' => ⟨.int kvs.length, H, I', ⟨t, rfl⟩, q⟩
  · exact call_len_dT pins s σ H xs us Q I rv h
def c1 (r : List V → Hp → VK → Prop) : V → Hp → VK → Prop := fun x H Q => r [x] H Q
theorem od_len {K : PySem.W.Frag} : OpD1 .len (c1 (rLen K)) := by
  refine OpD1.mk (fun _ _ => rfl) (fun _ _ _ => rfl) fun fr roots H Z fp v a d Q z hv e qF q => ?_
  have e : fLen a = some d := e
  unfold fLen at e
  split at e
  · cases e
    obtain ⟨l, us, rfl, hl, r1⟩ := hv
    refine .inl ⟨_, _, rfl, .inl ⟨us, hl.sq, rfl⟩, ?_⟩
    rw [r1.length]
    exact res_rd z (.int _) (qF rfl)
  · cases e
    obtain ⟨l, us, rfl, hl, r1⟩ := hv
    refine .inl ⟨_, _, rfl, .inr ⟨us, .inl (.inl hl), rfl⟩, ?_⟩
    rw [r1.length]
    exact res_rd z (.int _) (qF rfl)
  · cases e
    obtain ⟨l, rfl, hd⟩ := hv
    rcases hd with ⟨kvs, h1, r⟩ | ⟨kvs, n, h1, r⟩
    · refine .inr (.inl ⟨l, kvs, rfl, .inl h1, ?_⟩)
      have := r.length
      rw [List.length_map] at this
      rw [this]
      exact res_rd z (.int _) (qF rfl)
    · refine .inr (.inr ⟨l, kvs, rfl, h1, ?_⟩)
      have := r.length
      rw [List.length_map] at this
      rw [this]
      exact res_rd z (.int _) (qF rfl)
  · split at e
    · cases e
      cases vw_str hv
      exact .inl ⟨_, _, rfl, ⟨by assumption, rfl⟩, res_rd z (.int _) (qF rfl)⟩
    · cases e
  · cases e
theorem od_int : OpD1 .int (c1 fun xs H Q => (∃ i, xs = [.int i] ∧ Q (.int i) H) ∨ ∃ k, xs = [.bl k] ∧ Q (.int (if k then 1 else 0)) H) := by
  refine OpD1.mk (fun _ _ => rfl) (fun _ _ _ => rfl) fun fr roots H Z fp v a d Q z hv e qF q => ?_
  have e : fInt a = some d := e
  unfold fInt at e
  split at e
  · cases e
    cases vw_int hv
    exact .inl ⟨_, rfl, res_rd z (.int _) (qF rfl)⟩
  · cases e
    cases vw_bl hv
    exact .inr ⟨_, rfl, res_rd z (.int _) (qF rfl)⟩
  · cases e
theorem od_abs : OpD1 .abs (c1 fun xs H Q => ∃ i, xs = [.int i] ∧ Q (.int (if i < 0 then -i else i)) H) := by
  refine OpD1.mk (fun _ _ => rfl) (fun _ _ _ => rfl) fun fr roots H Z fp v a d Q z hv e qF q => ?_
  have e : fAbs a = some d := e
  unfold fAbs at e
  split at e
  · cases e
    cases vw_int hv
    exact ⟨_, rfl, res_rd z (.int _) (qF rfl)⟩
  · cases e
def c2 (r : List V → Hp → VK → Prop) : R2 := fun x y H Q => r [x, y] H Q
theorem od_min2 : OpD2 .min2 (c2 fun xs H Q => ∃ i j, xs = [.int i, .int j] ∧ Q (.int (if j < i then j else i)) H) := by
  refine OpD2.mk (fun _ => rfl) (fun _ _ _ => rfl) fun fr roots H Z fp v w a b d Q z hv hw e qF q => ?_
  have e : fMin2 a b = some d := e
  unfold fMin2 at e
  split at e
  · cases e
    cases vw_int hv; cases vw_int hw
    exact ⟨_, _, rfl, res_rd z (.int _) (qF rfl)⟩
  · cases e
theorem od_max2 : OpD2 .max2 (c2 fun xs H Q => ∃ i j, xs = [.int i, .int j] ∧ Q (.int (if j > i then j else i)) H) := by
  refine OpD2.mk (fun _ => rfl) (fun _ _ _ => rfl) fun fr roots H Z fp v w a b d Q z hv hw e qF q => ?_
  have e : fMax2 a b = some d := e
  unfold fMax2 at e
  split at e
  · cases e
    cases vw_int hv; cases vw_int hw
    exact ⟨_, _, rfl, res_rd z (.int _) (qF rfl)⟩
  · cases e
theorem ord_of {x : D} {r : List D} (h : canOrd (x :: r) = true) : okD (.list (x :: r)) = true ∧ W.AlikeAll (x :: r) := by
  unfold canOrd at h
  simp only [Bool.and_eq_true] at h
  obtain ⟨⟨h1, h2⟩, h3⟩ := h
  refine ⟨h1, fun a ha b hb => List.all_eq_true.mp (List.all_eq_true.mp h2 a ha) b hb, fun a ha e => ?_⟩
  have := List.all_eq_true.mp h3 a ha
  subst e
  cases this
theorem min1_some {a d : D} (e : fMin1 a = some d) : ∃ x r, (a = .list (x :: r) ∨ a = .tuple (x :: r)) ∧ canOrd (x :: r) = true ∧ d = W.minD x r := by
  cases a with
  | list xs =>
    cases xs with
    | nil => cases e
    | cons x r =>
      have e : (if canOrd (x :: r) then some (W.minD x r) else none) = some d := e
      split at e
      · exact ⟨x, r, .inl rfl, by assumption, (Option.some.inj e).symm⟩
      · cases e
  | tuple xs =>
    cases xs with
    | nil => cases e
    | cons x r =>
      have e : (if canOrd (x :: r) then some (W.minD x r) else none) = some d := e
      split at e
      · exact ⟨x, r, .inr rfl, by assumption, (Option.some.inj e).symm⟩
      · cases e
  | _ => cases e
theorem od_min1 {K : PySem.W.Frag} : OpD1 .min1 (c1 (rMinS K false)) := by
  refine OpD1.mk (fun _ _ => rfl) (fun _ _ _ => rfl) fun fr roots H Z fp v a d Q z hv e qF q => ?_
  have qF : Wish roots Q d .F := qF (by cases d <;> rfl)
  obtain ⟨x, r, ha, ok, ed⟩ := min1_some e
  subst ed
  obtain ⟨h1, h2⟩ := ord_of ok
  have fin : ∀ {us : List V}, RdA H Z us (x :: r) → ∀ (i : Nat) u d, us[i]? = some u → (x :: r)[i]? = some d → d = W.minD x r → Q u H := fun r1 i u d hu hd e => by
    obtain ⟨u', e1, r2⟩ := r1.get hd
    rw [hu] at e1
    cases e1
    rw [e] at r2
    exact res_rd z r2 qF
  rcases ha with rfl | rfl
  · obtain ⟨l, us, rfl, hl, r1⟩ := hv
    exact ⟨l, x, r, us, rfl, .inl hl, r1.dp (layAll h1), h1, h2, fin r1⟩
  · obtain ⟨l, us, rfl, hl, r1⟩ := hv
    exact ⟨l, x, r, us, rfl, .inr hl, r1.dp (layAll h1), h1, h2, fin r1⟩
theorem max1_some {a d : D} (e : fMax1 a = some d) : ∃ x r, (a = .list (x :: r) ∨ a = .tuple (x :: r)) ∧ canOrd (x :: r) = true ∧ d = W.maxD x r := by
  cases a with
  | list xs =>
    cases xs with
    | nil => cases e
    | cons x r =>
      have e : (if canOrd (x :: r) then some (W.maxD x r) else none) = some d := e
      split at e
      · exact ⟨x, r, .inl rfl, by assumption, (Option.some.inj e).symm⟩
      · cases e
  | tuple xs =>
    cases xs with
    | nil => cases e
    | cons x r =>
      have e : (if canOrd (x :: r) then some (W.maxD x r) else none) = some d := e
      split at e
      · exact ⟨x, r, .inr rfl, by assumption, (Option.some.inj e).symm⟩
      · cases e
  | _ => cases e
theorem od_max1 {K : PySem.W.Frag} : OpD1 .max1 (c1 (rMinS K true)) := by
  refine OpD1.mk (fun _ _ => rfl) (fun _ _ _ => rfl) fun fr roots H Z fp v a d Q z hv e qF q => ?_
  have qF : Wish roots Q d .F := qF (by cases d <;> rfl)
  obtain ⟨x, r, ha, ok, ed⟩ := max1_some e
  subst ed
  obtain ⟨h1, h2⟩ := ord_of ok
  have fin : ∀ {us : List V}, RdA H Z us (x :: r) → ∀ (i : Nat) u d, us[i]? = some u → (x :: r)[i]? = some d → d = W.maxD x r → Q u H := fun r1 i u d hu hd e => by
    obtain ⟨u', e1, r2⟩ := r1.get hd
    rw [hu] at e1
    cases e1
    rw [e] at r2
    exact res_rd z r2 qF
  rcases ha with rfl | rfl
  · obtain ⟨l, us, rfl, hl, r1⟩ := hv
    exact ⟨l, x, r, us, rfl, .inl hl, r1.dp (layAll h1), h1, h2, fin r1⟩
  · obtain ⟨l, us, rfl, hl, r1⟩ := hv
    exact ⟨l, x, r, us, rfl, .inr hl, r1.dp (layAll h1), h1, h2, fin r1⟩
def rListOf (K : PySem.W.Frag) : List V → Hp → VK → Prop := fun xs H Q => ∃ p ys, xs = [.ref p] ∧ (SqL K H p ys ∨ SqT K H p ys) ∧ ∀ l, H l = none → Q (.ref l) (upd H l (.lst ys))
theorem od_list {K : PySem.W.Frag} : OpD1 .list (c1 (rListOf K)) := by
  refine OpD1.mk (fun _ _ => rfl) (fun _ _ _ => rfl) fun fr roots H Z fp v a d Q z hv e qF q => ?_
  have e : fList a = some d := e
  unfold fList at e
  split at e
  · cases e
    obtain ⟨l, us, rfl, hl, r1⟩ := hv
    exact ⟨l, us, rfl, .inl hl.sq, res_newL z r1 q⟩
  · cases e
    obtain ⟨l, us, rfl, hl, r1⟩ := hv
    exact ⟨l, us, rfl, .inr (.inl (.inl hl)), res_newL z r1 q⟩
  · cases e
def rTupleOf (K : PySem.W.Frag) : List V → Hp → VK → Prop := fun xs H Q => ∃ p ys, xs = [.ref p] ∧ ((SqL K H p ys ∧ ∀ l, H l = none → Q (.ref l) (upd H l (.tup ys))) ∨ (SqT K H p ys ∧ Q (.ref p) H))
theorem od_tuple {K : PySem.W.Frag} : OpD1 .tuple (c1 (rTupleOf K)) := by
  refine OpD1.mk (fun _ _ => rfl) (fun _ _ _ => rfl) fun fr roots H Z fp v a d Q z hv e qF q => ?_
  have e : fTuple a = some d := e
  unfold fTuple at e
  split at e
  · cases e
    obtain ⟨l, us, rfl, hl, r1⟩ := hv
    exact ⟨l, us, rfl, .inl ⟨hl.sq, res_newT z r1 (qF rfl)⟩⟩
  · cases e
    obtain ⟨l, us, rfl, hl, r1⟩ := hv
    exact ⟨l, us, rfl, .inr ⟨.inl (.inl hl), res_rd z (.tup hl r1) (qF rfl)⟩⟩
  · cases e
theorem od_repr {K : PySem.W.Frag} : OpD1 .repr (c1 (rRepr K)) := by
  refine OpD1.mk (fun _ _ => rfl) (fun _ _ _ => rfl) fun fr roots H Z fp v a d Q z hv e qF q => ?_
  have e : fRepr a = some d := e
  unfold fRepr at e
  split at e
  · rename_i h
    cases e
    simp only [Bool.and_eq_true, decide_eq_true_eq] at h
    exact ⟨v, a, rfl, hv.dp h.1.1, h.1.1, h.1.2, h.2, res_rd z (.str _) (qF rfl)⟩
  · cases e
theorem bools_of {H : Hp} {Z : Addr → Prop} : ∀ {xs : List V} {ds : List D} {bs : List Bool}, RdA H Z xs ds → boolsOf ds = some bs → xs = bs.map V.bl
  | _, _, _, .nil, e => by cases e; rfl
  | _, _, _, @RdA.cons _ _ v vs d ds h t, e => by
    cases d with
    | bool b =>
      obtain ⟨bs, e1, rfl⟩ := Option.map_eq_some_iff.mp (show (boolsOf ds).map (b :: ·) = some _ from e)
      rw [bools_of t e1, vw_bl h.vw]
      rfl
    | _ => cases e
theorem od_all {K : PySem.W.Frag} : OpD1 .all (c1 (rAll K)) := by
  refine OpD1.mk (fun _ _ => rfl) (fun _ _ _ => rfl) fun fr roots H Z fp v a d Q z hv e qF q => ?_
  have e : fAll a = some d := e
  unfold fAll at e
  split at e
  · obtain ⟨bs, e1, rfl⟩ := Option.map_eq_some_iff.mp e
    obtain ⟨l, us, rfl, hl, r1⟩ := hv
    have := bools_of r1 e1
    subst this
    exact ⟨l, bs, rfl, hl.sq, res_rd z (.bl _) (qF rfl)⟩
  · cases e
theorem od_any {K : PySem.W.Frag} : OpD1 .any (c1 (rAny K)) := by
  refine OpD1.mk (fun _ _ => rfl) (fun _ _ _ => rfl) fun fr roots H Z fp v a d Q z hv e qF q => ?_
  have e : fAny a = some d := e
  unfold fAny at e
  split at e
  · obtain ⟨bs, e1, rfl⟩ := Option.map_eq_some_iff.mp e
    obtain ⟨l, us, rfl, hl, r1⟩ := hv
    have := bools_of r1 e1
    subst this
    exact ⟨l, bs, rfl, hl.sq, res_rd z (.bl _) (qF rfl)⟩
  · cases e
/-! ### isinstance -/
def tyN : D → String
  | .none => "NoneType"
  | .bool _ => "bool"
  | .int _ => "int"
  | .str _ => "str"
  | .list _ => "list"
  | .tuple _ => "tuple"
  | .dict _ => "dict"
theorem Vw.ty {K : PySem.W.Frag} {H : Hp} {Z : Addr → Prop} {v : V} {d : D} (h : Vw H Z v d) : TyOf K H v (.type (tyN d)) := by
  cases d with
  | none => cases (show v = .non from h); exact .non
  | bool b => cases (show v = .bl b from h); exact .bl b
  | int b => cases (show v = .int b from h); exact .int b
  | str b => cases (show v = .str b from h); exact .str b
  | list ds =>
    obtain ⟨a, xs, rfl, l, _⟩ := h
    rcases l with l | ⟨o, l⟩
    · exact .lst l
    · exact .frz l
  | tuple ds => obtain ⟨a, xs, rfl, l, _⟩ := h; exact .tup l
  | dict ds =>
    obtain ⟨a, rfl, l⟩ := h
    rcases l with ⟨_, l, _⟩ | ⟨_, _, l, _⟩
    · exact .dK l
    · exact .dT l
def rIs (K : PySem.W.Frag) (n : String) : V → Hp → VK → Prop := fun x H Q => rIsi K [x, .ty n] H Q
theorem od_isX {K : PySem.W.Frag} {o : Op} {n : String} {f : D → Bool} (ho : ∀ a, opF o [a] = some (.bool (f a))) (n2 : ∀ a b, opF o [a, b] = none) (n3 : ∀ a b c, opF o [a, b, c] = none) (k : ∀ d, kitB (tyN d) n = some (f d)) (nf : ∀ b, frD o (.bool b) = false) : OpD1 o (rIs K n) := by
  refine OpD1.mk n2 n3 fun fr roots H Z fp v a d Q z hv e qF q => ?_
  rw [ho] at e
  cases e
  exact ⟨v, .ty n, .type (tyN a), .type n, f a, rfl, .ty n, .base hv.ty, kit_ty (k a), res_rd z (.bl _) (qF (nf _))⟩
def tyNs : List String := ["NoneType", "bool", "int", "str", "list", "tuple", "dict"]
theorem tyN_mem (d : D) : tyN d ∈ tyNs := by cases d <;> simp [tyN, tyNs]
theorem isX_k {n : String} {g : String → Bool} {f : D → Bool} (h : ∀ t ∈ tyNs, kitB t n = some (g t)) (hf : ∀ d, f d = g (tyN d)) : ∀ d, kitB (tyN d) n = some (f d) := fun d => by
  rw [hf]
  exact h _ (tyN_mem d)
theorem od_isInt {K : PySem.W.Frag} : OpD1 .isInt (rIs K "int") := od_isX (f := isIntD) (fun _ => rfl) (fun _ _ => rfl) (fun _ _ _ => rfl) (isX_k (g := fun t => decide (t = "int") || decide (t = "bool")) (by decide +kernel) fun d => by cases d <;> simp [isIntD, tyN]) (fun _ => rfl)
theorem od_isBool {K : PySem.W.Frag} : OpD1 .isBool (rIs K "bool") := od_isX (f := isBoolD) (fun _ => rfl) (fun _ _ => rfl) (fun _ _ _ => rfl) (isX_k (g := fun t => decide (t = "bool")) (by decide +kernel) fun d => by cases d <;> simp [isBoolD, tyN]) (fun _ => rfl)
theorem od_isTuple {K : PySem.W.Frag} : OpD1 .isTuple (rIs K "tuple") := od_isX (f := isTupleD) (fun _ => rfl) (fun _ _ => rfl) (fun _ _ _ => rfl) (isX_k (g := fun t => decide (t = "tuple")) (by decide +kernel) fun d => by cases d <;> simp [isTupleD, tyN]) (fun _ => rfl)
theorem od_isList {K : PySem.W.Frag} : OpD1 .isList (rIs K "list") := od_isX (f := isListD) (fun _ => rfl) (fun _ _ => rfl) (fun _ _ _ => rfl) (isX_k (g := fun t => decide (t = "list")) (by decide +kernel) fun d => by cases d <;> simp [isListD, tyN]) (fun _ => rfl)
theorem od_isStr {K : PySem.W.Frag} : OpD1 .isStr (rIs K "str") := od_isX (f := isStrD) (fun _ => rfl) (fun _ _ => rfl) (fun _ _ _ => rfl) (isX_k (g := fun t => decide (t = "str")) (by decide +kernel) fun d => by cases d <;> simp [isStrD, tyN]) (fun _ => rfl)
/-! ### list(range(..)) -/
def rRg (a b : Int) : Hp → VK → Prop := fun H Q => RgOk a b ∧ ∀ q, H q = none → Q (.ref q) (upd H q (.lst (rgV a b)))
def rRg1 : V → Hp → VK → Prop := fun x H Q => ∃ n, x = .int n ∧ rRg 0 n H Q
def rRg2 : R2 := fun x y H Q => ∃ i j, x = .int i ∧ y = .int j ∧ rRg i j H Q
theorem rdA_rg {H : Hp} {Z : Addr → Prop} (a b : Int) : RdA H Z (rgV a b) (rangeD a b) := by
  unfold rgV rangeD
  generalize (List.range (b - a).toNat) = l
  induction l with
  | nil => exact .nil
  | cons x l ih => exact .cons (.int _) ih
theorem rgOk_of {a b : Int} (h1 : inR a = true) (h2 : inR b = true) (h3 : (b - a).toNat ≤ 2 ^ 24) : RgOk a b := by
  unfold inR at h1 h2
  simp only [Bool.and_eq_true, decide_eq_true_eq] at h1 h2
  exact ⟨h1.1, h1.2, h2.1, h2.2, h3⟩
theorem od_range1 : OpD1 .range1 rRg1 := by
  refine OpD1.mk (fun _ _ => rfl) (fun _ _ _ => rfl) fun fr roots H Z fp v a d Q z hv e qF q => ?_
  have e : fRange1 a = some d := e
  unfold fRange1 at e
  split at e
  · split at e
    · rename_i h
      cases e
      cases vw_int hv
      simp only [Bool.and_eq_true, decide_eq_true_eq] at h
      exact ⟨_, rfl, rgOk_of (by decide) h.1 (by simpa using h.2), res_newL z (rdA_rg _ _) q⟩
    · cases e
  · cases e
theorem od_range2 : OpD2 .range2 rRg2 := by
  refine OpD2.mk (fun _ => rfl) (fun _ _ _ => rfl) fun fr roots H Z fp v w a b d Q z hv hw e qF q => ?_
  have e : fRange2 a b = some d := e
  unfold fRange2 at e
  split at e
  · split at e
    · rename_i h
      cases e
      cases vw_int hv; cases vw_int hw
      simp only [Bool.and_eq_true, decide_eq_true_eq] at h
      exact ⟨_, _, rfl, rfl, rgOk_of h.1.1 h.1.2 h.2, res_newL z (rdA_rg _ _) q⟩
    · cases e
  · cases e
theorem pe_rg1 {a : Expr} {ta : TE} {p p2 pos pos2 : Pos} (hc : X.calm = true) (hg : Gl X "list") (hm : X.mg "list" = none) (hg2 : Gl X "range") (hm2 : X.mg "range" = none) (ha : PE X a ta)
    (na : starEach [a] X.env = (false, eval a X.env) :: starEach [] X.env) : PE X (.Call (.Name "list" p) [.Call (.Name "range" p2) [a] [] pos2] [] pos) (tUn rRg1 ta) := by
  refine PE.imp (pe_listRg hc hg hm (prg_1 hg2 hm2 ha na)) fun σ H Q h => ?_
  exact h
theorem pe_rg2 {a b : Expr} {ta tb : TE} {p p2 pos pos2 : Pos} (hc : X.calm = true) (hg : Gl X "list") (hm : X.mg "list" = none) (hg2 : Gl X "range") (hm2 : X.mg "range" = none) (ha : PE X a ta) (hb : PE X b tb)
    (na : starEach [a, b] X.env = (false, eval a X.env) :: starEach [b] X.env) (nb : starEach [b] X.env = (false, eval b X.env) :: starEach [] X.env) (hp : (backTo pos2 (starEach [b] X.env)).any (·.1) = false) :
    PE X (.Call (.Name "list" p) [.Call (.Name "range" p2) [a, b] [] pos2] [] pos) (tOp rRg2 ta tb) := by
  refine PE.imp (pe_listRg hc hg hm (prg_2 hg2 hm2 ha hb na nb hp)) fun σ H Q h => ?_
  exact h
end
end Dt
end
section
set_option Elab.async false
set_option linter.all false
set_option maxRecDepth 100000
set_option maxHeartbeats 4000000
/-! The checker: own syntax against the row's own. -/
namespace Dt
open PySem PySem.Spec PyProof.Rows L2
/-- a def as others see it -/
structure FnC where
  name : Str
  np : Nat
  ln : List Nat
  lm : List (Option Md)
  rm : Md
structure Ck where
  N : List Str
  sc : Scope
  own : Scope
  fns : List FnC
  bn : List Str
def glo (C : Ck) (x : Str) : Bool := match C.sc.names.lookup x with
  | some .globalImplicit => true
  | _ => false
def vis (C : Ck) (x : Str) : Bool := match C.sc.names.lookup x with
  | some .local => true
  | some .cell => true
  | some .free => true
  | _ => false
def sto (C : Ck) (x : Str) : Bool := match C.sc.names.lookup x with
  | some .local => true
  | some .cell => (match C.own.names.lookup x with
    | some .cell => true
    | _ => false)
  | _ => false
def plainN (x : Str) : Bool := !(x == ("__debug__" : Str)) && !(x == ("__classdict__" : Str)) && !decide (x = ("__name__" : Str))
def okN (C : Ck) (i : Nat) (x : Str) : Bool := decide (C.N[i]? = some x) && vis C x && plainN x
def okT (C : Ck) (i : Nat) (x : Str) : Bool := decide (C.N[i]? = some x) && sto C x
def nostar : Expr → Bool
  | .Starred _ _ => false
  | _ => true
def bltN (C : Ck) (n x : Str) : Bool := decide (x = n) && glo C x && decide (x ∈ C.bn) && plainN x
/-- n(a, ..) -/
def callB (C : Ck) (n : Str) (e : Expr) : Option (List Expr) := match e with
  | .Call (.Name x _) (a :: es) [] _ => if bltN C n x then some (a :: es) else none
  | _ => none
def one1 {α : Type} : Option (List α) → Option (List α)
  | some [a] => some [a]
  | _ => none
def two2 {α : Type} : Option (List α) → Option (List α)
  | some [a, b] => some [a, b]
  | _ => none
def isiOf (C : Ck) (n : Str) (e : Expr) : Option (List Expr) := match callB C "isinstance" e with
  | some [a, .Name y _] => if bltN C n y then some [a] else none
  | _ => none
def binOf (op : Operator) (e : Expr) : Option (List Expr) := match e with
  | .BinOp a o b _ => if o = op then some [a, b] else none
  | _ => none
def cmpOf (op : CmpOp) (e : Expr) : Option (List Expr) := match e with
  | .Compare a [o] [b] _ => if o = op && !(behindInMarks o b) then some [a, b] else none
  | _ => none
def nonOf (op : CmpOp) (e : Expr) : Option (List Expr) := match e with
  | .Compare a [o] [.Constant .none _ _] _ => if o = op then some [a] else none
  | _ => none
def rgOf (C : Ck) (e : Expr) : Option (List Expr) := match callB C "list" e with
  | some [r] => callB C "range" r
  | _ => none
def noSl : Expr → Bool
  | .Slice _ _ _ _ => false
  | _ => true
def opArgs (C : Ck) (o : Op) (e : Expr) : Option (List Expr) := match o with
  | .add => binOf .Add e
  | .sub => binOf .Sub e
  | .mul => binOf .Mult e
  | .fdiv => binOf .FloorDiv e
  | .mod => binOf .Mod e
  | .pow => binOf .Pow e
  | .neg => (match e with
    | .UnaryOp .USub a _ => some [a]
    | _ => none)
  | .eq => cmpOf .Eq e
  | .ne => cmpOf .NotEq e
  | .lt => cmpOf .Lt e
  | .le => cmpOf .LtE e
  | .gt => cmpOf .Gt e
  | .ge => cmpOf .GtE e
  | .isIn => cmpOf .In e
  | .notIn => cmpOf .NotIn e
  | .isN => nonOf .Is e
  | .notN => nonOf .IsNot e
  | .isB => cmpOf .Is e
  | .notB => cmpOf .IsNot e
  | .idx => (match e with
    | .Subscript a b _ => if noSl b then some [a, b] else none
    | _ => none)
  | .slice => (match e with
    | .Subscript a (.Slice (some lo) (some hi) none _) _ => some [a, lo, hi]
    | _ => none)
  | .sliceL => (match e with
    | .Subscript a (.Slice (some lo) none none _) _ => some [a, lo]
    | _ => none)
  | .sliceH => (match e with
    | .Subscript a (.Slice none (some hi) none _) _ => some [a, hi]
    | _ => none)
  | .rev => (match e with
    | .Subscript a (.Slice none none (some (.UnaryOp .USub (.Constant (.int 1) _ _) _)) _) _ => some [a]
    | _ => none)
  | .len => one1 (callB C "len" e)
  | .int => one1 (callB C "int" e)
  | .abs => one1 (callB C "abs" e)
  | .min1 => one1 (callB C "min" e)
  | .max1 => one1 (callB C "max" e)
  | .min2 => two2 (callB C "min" e)
  | .max2 => two2 (callB C "max" e)
  | .list => one1 (callB C "list" e)
  | .tuple => one1 (callB C "tuple" e)
  | .repr => one1 (callB C "repr" e)
  | .all => one1 (callB C "all" e)
  | .any => one1 (callB C "any" e)
  | .isInt => isiOf C "int" e
  | .isBool => isiOf C "bool" e
  | .isTuple => isiOf C "tuple" e
  | .isList => isiOf C "list" e
  | .isStr => isiOf C "str" e
  | .range1 => one1 (rgOf C e)
  | .range2 => two2 (rgOf C e)
  | _ => none

/-! ### what a body's context gives -/
/-- a def that is called where no guard runs -/
structure FnG (P : Program) (w : World) (K : PySem.W.Frag) (mg : Str → Option Value) (base : Heap) (k : Nat) (f : Addr) (fd : FuncData) (ps : List Str) (sp : List V → Hp → VK → Prop) : Prop where
  len : ∀ vs H Q, sp vs H Q → vs.length = ps.length
  run : ∀ (A : Around) (outer : List Env) (s : Shared) (H : Hp) (args : Args) (us : List Value) (vs : List V) (Q : VK), Room k A → A.guards = some [] → Env0 P w K mg base A outer s H → BindsTo s fd args (ps.zip us) → Vals vs us → sp vs H Q →
    codeAny (model P w) A (.call (.ref f) args) (CR CX0 outer P w H s Q fun _ _ _ => False) s
/-- the lent roots -/
def argR : List (Option Md) → List V → List D → List Root
  | lm :: l, v :: vs, d :: ds => (v, d, lm.getD .F) :: argR l vs ds
  | _, _, _ => []
def lentR : List (Option Md) → List V → List D → List Root
  | some m :: l, v :: vs, ds => (match ds with
    | d :: ds => (v, d, m) :: lentR l vs ds
    | [] => [])
  | none :: l, _ :: vs, ds => lentR l vs ds
  | _, _, _ => []
/-- a def's promise -/
def spF (F : Fns) (f : Nat) (d : FnC) : List V → Hp → VK → Prop := fun vs H Q => vs.length = d.np ∧ ∃ ds roots, ds.length = d.np ∧ Rep (argR d.lm vs ds ++ roots) H ∧ match F f ds with
  | .ret r ls => ∀ v H', Rep ((v, r, d.rm) :: (lentR d.lm vs ls ++ roots)) H' → Q v H'
  | _ => False
structure XOk (C : Ck) (U : Ev) (X : Cx) : Prop where
  N : X.N = C.N
  nd : X.N.Nodup
  sc : X.env.scope = C.sc
  calm : X.calm = true
  gd : X.A.guards = some []
  un : X.A.units + 200 < cLine
  bl : ∀ x ∈ C.bn, X.mg x = none
  cel : ∀ x, C.own.names.lookup x = some .cell → X.fn x = true
  xe : X.xe = fun _ _ => False
  fns : ∀ f d, C.fns[f]? = some d → ∃ a k fd ps, X.mg d.name = some (.ref a) ∧ PySem.W.keepIn X.K (.ref a) = true ∧ Binds X.K fd ps [] ∧ ps.length = d.np ∧ FnG X.prog X.w X.K X.mg X.base k a fd ps (spF U.F f d) ∧ Room k X.A
section
variable {C : Ck} {U : Ev} {X : Cx}
theorem XOk.glo (O : XOk C U X) {x : Str} (h : glo C x = true) : Gl X x := by
  unfold Dt.glo at h
  show X.env.scope.names.lookup x = some .globalImplicit
  rw [O.sc]
  split at h
  · assumption
  · cases h
theorem XOk.vis (O : XOk C U X) {x : Str} (h : vis C x = true) : Vis X.env.scope x := by
  unfold Dt.vis at h
  unfold Vis
  rw [O.sc]
  split at h
  · exact .inl (by assumption)
  · exact .inr (.inl (by assumption))
  · exact .inr (.inr (by assumption))
  · cases h
theorem XOk.sto (O : XOk C U X) {x : Str} (h : sto C x = true) : L2.Loc X.env.scope x ∧ (X.fn x = true ∨ X.env.scope.names.lookup x = some .local) := by
  unfold Dt.sto at h
  unfold L2.Loc
  rw [O.sc]
  split at h
  · exact ⟨.inl (by assumption), .inr (by assumption)⟩
  · split at h
    · exact ⟨.inr (by assumption), .inl (O.cel x (by assumption))⟩
    · cases h
  · cases h
theorem okN_ {i : Nat} {x : Str} (O : XOk C U X) (h : okN C i x = true) : X.N[i]? = some x ∧ Vis X.env.scope x ∧ (x == ("__debug__" : Str)) = false ∧ (x == ("__classdict__" : Str)) = false := by
  unfold okN plainN at h
  simp only [Bool.and_eq_true, Bool.not_eq_true', decide_eq_true_eq] at h
  exact ⟨by rw [O.N]; exact h.1.1, O.vis h.1.2, h.2.1.1, h.2.1.2⟩
theorem bltN_ {n x : Str} (O : XOk C U X) (h : bltN C n x = true) : x = n ∧ Gl X x ∧ X.mg x = none ∧ x ≠ ("__name__" : Str) ∧ (x == ("__debug__" : Str)) = false := by
  unfold bltN plainN at h
  simp only [Bool.and_eq_true, Bool.not_eq_true', decide_eq_true_eq, decide_eq_false_iff_not] at h
  exact ⟨h.1.1.1, O.glo h.1.1.2, O.bl x h.1.2, h.2.2, h.2.1.1⟩
theorem star_no {e : Expr} {es : List Expr} {env : Env} (h : nostar e = true) : starEach (e :: es) env = (false, eval e env) :: starEach es env := by
  cases e <;> first | rfl | cases h
/-! ### lists of readings -/
def chain : List TE → TA
  | [] => fun _ H Q => Q [] H
  | te :: tes => fun σ H Q => te σ H fun x H1 => chain tes σ H1 fun xs H2 => Q (x :: xs) H2
def Mo (te : TE) : Prop := ∀ (σ : L2.St) (H : Hp) (Q Q' : VK), (∀ v H, Q v H → Q' v H) → te σ H Q → te σ H Q'
theorem mo_tC {v : V} : Mo (tC v) := fun _ _ _ _ h w => h _ _ w
theorem mo_tD {md : List Md} {rm : Md} {W : WX} {m : Sl → Out D} : Mo (tD md rm W m) := fun σ H Q Q' h ⟨en, ts, R, P⟩ => ⟨en, ts, R, P.mono fun d en' _ q v H' r => h _ _ (q v H' r)⟩
theorem mo_tVar {i : Nat} : Mo (tVar i) := fun _ _ _ _ h ⟨v, e, q⟩ => ⟨v, e, h _ _ q⟩
inductive PEs (X : Cx) : List Expr → List TE → Prop
  | nil : PEs X [] []
  | cons {e : Expr} {es : List Expr} {te : TE} {tes : List TE} : nostar e = true → Mo te → PE X e te → PEs X es tes → PEs X (e :: es) (te :: tes)
theorem PEs.pa {es : List Expr} {tes : List TE} (h : PEs X es tes) : PA X es (chain tes) := by
  induction h with
  | nil => exact pa_nil
  | cons n _ h t ih => exact pa_cons h ih (star_no n)
theorem PEs.plain {es : List Expr} {tes : List TE} {pos : Pos} (h : PEs X es tes) : (backTo pos (starEach es X.env)).any (·.1) = false := by
  induction h with
  | nil => rfl
  | cons n _ h t ih =>
    rw [star_no n]
    show (false || (backTo pos (starEach _ X.env)).any (·.1)) = false
    rw [ih]
    rfl
theorem PEs.one {a : Expr} {tes : List TE} (h : PEs X [a] tes) : ∃ t, tes = [t] ∧ PE X a t ∧ nostar a = true := by
  cases h with
  | cons n _ h t => cases t; exact ⟨_, rfl, h, n⟩
theorem PEs.two {a b : Expr} {tes : List TE} (h : PEs X [a, b] tes) : ∃ t u, tes = [t, u] ∧ PE X a t ∧ PE X b u ∧ nostar a = true ∧ nostar b = true := by
  cases h with
  | cons n _ h t => obtain ⟨u, rfl, h2, n2⟩ := t.one; exact ⟨_, _, rfl, h, h2, n, n2⟩
theorem PEs.three {a b c : Expr} {tes : List TE} (h : PEs X [a, b, c] tes) : ∃ t u v, tes = [t, u, v] ∧ PE X a t ∧ PE X b u ∧ PE X c v := by
  cases h with
  | cons n _ h t => obtain ⟨u, v, rfl, h2, h3, _⟩ := t.two; exact ⟨_, _, _, rfl, h, h2, h3⟩
theorem PEs.mo2 {a b : Expr} {t u : TE} (h : PEs X [a, b] [t, u]) : Mo u := by
  cases h with
  | cons _ _ _ h => cases h with
    | cons _ m _ _ => exact m
/-! ### operands as values -/
theorem all_cons {α : Type} {p : α → Bool} {a : α} {l : List α} (h : (a :: l).all p = true) : p a = true ∧ l.all p = true := Bool.and_eq_true_iff.mp h
theorem ops_vw {md : List Md} {σ : L2.St} {en : Sl} {H : Hp} {Z : Addr → Prop} {fp : List Addr} {rs all : List Root} (S : SR md σ en rs) (z : RepZ all H Z fp) (hs : ∀ r ∈ rs, r ∈ all) :
    ∀ {as : E} {vs : List V} {ds : List D} {ms : List Md} {tr : List Root}, Ops md σ en as vs ds ms tr → (∀ r ∈ tr, r ∈ all) → ms.all flatM = true → VwA H Z vs ds := by
  intro as vs ds ms tr o
  induction o with
  | nil => intro _ _; exact .nil
  | pk h1 h2 h3 _ ih =>
    intro ht hf
    obtain ⟨f1, f2⟩ := all_cons hf
    obtain ⟨v', m', e1, e2, e3⟩ := S.get h2
    rw [h1] at e1; cases e1
    rw [h3] at e2; cases e2
    obtain ⟨f, w, _⟩ := z.own.get (hs _ e3)
    exact .cons (w.vw f1) (ih ht f2)
  | lnt h1 h2 h3 _ ih =>
    intro ht hf
    obtain ⟨f1, f2⟩ := all_cons hf
    obtain ⟨v', m', e1, e2, e3⟩ := S.get h2
    rw [h1] at e1; cases e1
    rw [h3] at e2; cases e2
    obtain ⟨f, w, _⟩ := z.own.get (hs _ e3)
    exact .cons (w.vw f1) (ih ht f2)
  | tmp n _ ih =>
    intro ht hf
    obtain ⟨f1, f2⟩ := all_cons hf
    obtain ⟨f, w, _⟩ := z.own.get (ht _ (List.mem_cons_self ..))
    exact .cons (w.vw f1) (ih (fun r hr => ht r (List.mem_cons_of_mem _ hr)) f2)
/-- an operation where it has a meaning -/
theorem op_at {o : Op} {r : List V → Hp → VK → Prop} (od : OpD o r) {md : List Md} {σ : L2.St} {en : Sl} {H : Hp} {ts tr : List Root} {as : E} {vs : List V} {ds : List D} {ms : List Md} {fr : Bool} {d : D} {Q : VK}
    (R : RepS md σ en (tr ++ ts) H) (O : Ops md σ en as vs ds ms tr) (fl : ms.all flatM = true) (e : opR o fr ds = some d) (q : ∀ v H', RepS md σ en ((v, d, rmO fr) :: ts) H' → Q v H') : r vs H Q := by
  obtain ⟨rs, S, Z, fp, z⟩ := R
  have w := ops_vw S z (fun r h => List.mem_append_left _ h) O (fun r h => List.mem_append_right _ (List.mem_append_left _ h)) fl
  refine od fr _ H Z fp vs ds d Q z w e fun v H' R' => q v H' ⟨rs, S, ?_⟩
  have p : ((v, d, rmO fr) :: (rs ++ (tr ++ ts))).Perm (tr ++ (rs ++ (v, d, rmO fr) :: ts)) := by
    refine List.Perm.trans ?_ (List.perm_append_comm_assoc ..)
    refine List.Perm.trans (List.perm_middle.symm) ?_
    refine List.Perm.append_left rs ?_
    exact List.perm_middle.symm
  exact R'.sub p
theorem op_snd {o : Op} {r : List V → Hp → VK → Prop} (od : OpD o r) {md : List Md} {W : WX} {U : Ev} {as : E} {ms : List Md} {fr : Bool} {tes : List TE} (fl : ms.all flatM = true)
    (imp : ∀ σ H Q, tDL md W (evL U as) as ms σ H Q → chain tes σ H Q) : ∀ σ H Q, tD md (rmO fr) W (evE U (.op o fr as)) σ H Q → chain tes σ H fun vs H' => r vs H' Q := by
  intro σ H Q h
  obtain ⟨en, ts, R, P⟩ := h
  refine imp σ H _ ⟨en, ts, R, ?_⟩
  rw [show evE U (.op o fr as) en = (evL U as en).bind fun ds σ => ofO (opR o fr ds) σ by rw [evE]] at P
  refine P.bind.mono fun ds en' _ P2 vs H' tr R' O => ?_
  obtain ⟨d, e, q⟩ := P2.ofO
  exact op_at od R' O fl e q
end
end Dt
end
section
set_option Elab.async false
set_option linter.all false
set_option maxRecDepth 100000
set_option maxHeartbeats 4000000
/-! Each operation's form in the row. -/
namespace Dt
open PySem PySem.Spec PyProof.Rows L2
def OpOk (X : Cx) (o : Op) (e : Expr) (es : List Expr) : Prop := ∃ r, OpD o r ∧ ∀ tes, PEs X es tes → PE X e fun σ H Q => chain tes σ H fun vs H' => r vs H' Q
def OpT (X : Cx) (o : Op) (e : Expr) (es : List Expr) : Prop := ∃ r, OpD o r ∧ ∀ tes, PEs X es tes → PT X e fun σ H Q => chain tes σ H fun vs H' => r vs H' fun z H3 => ∃ k, z = .bl k ∧ Q k H3
section
variable {C : Ck} {U : Ev} {X : Cx} {e : Expr} {es : List Expr} {o : Op}
theorem binOf_ {op : Operator} (h : binOf op e = some es) : ∃ a b p, e = .BinOp a op b p ∧ es = [a, b] := by
  unfold binOf at h
  split at h
  · split at h
    · rename_i h2
      subst h2
      cases h
      exact ⟨_, _, _, rfl, rfl⟩
    · cases h
  · cases h
theorem bin_ok {op : Operator} {r : R2} (od : OpD2 o r) (ho : OpR X (binaryOp op) r) (h : binOf op e = some es) : OpOk X o e es := by
  obtain ⟨a, b, p, rfl, rfl⟩ := binOf_ h
  refine ⟨u2 r, od, fun tes T => ?_⟩
  obtain ⟨t, u, rfl, h1, h2, _⟩ := T.two
  exact PE.imp (pe_op ho h1 h2) fun σ H Q w => w
theorem cmpOf_ {op : CmpOp} (h : cmpOf op e = some es) : ∃ a b p, e = .Compare a [op] [b] p ∧ es = [a, b] ∧ behindInMarks op b = false := by
  unfold cmpOf at h
  split at h
  · split at h
    · rename_i h2
      simp only [Bool.and_eq_true, decide_eq_true_eq, Bool.not_eq_true'] at h2
      obtain ⟨rfl, h3⟩ := h2
      cases h
      exact ⟨_, _, _, rfl, rfl, h3⟩
    · cases h
  · cases h
theorem cmp_ok {op : CmpOp} {r : R2} (od : OpD2 o r) (ho : OpR X (compareOp op) r) (h : cmpOf op e = some es) : OpOk X o e es ∧ OpT X o e es := by
  obtain ⟨a, b, p, rfl, rfl, hm⟩ := cmpOf_ h
  refine ⟨⟨u2 r, od, fun tes T => ?_⟩, ⟨u2 r, od, fun tes T => ?_⟩⟩
  · obtain ⟨t, u, rfl, h1, h2, _⟩ := T.two
    exact PE.imp (pe_cmpR ho h1 h2 hm) fun σ H Q w => w
  · obtain ⟨t, u, rfl, h1, h2, _⟩ := T.two
    exact PT.imp (pt_cmpR ho h1 h2 hm) fun σ H Q w => w
theorem nonOf_ {op : CmpOp} (h : nonOf op e = some es) : ∃ a j p p2, e = .Compare a [op] [.Constant .none j p2] p ∧ es = [a] := by
  unfold nonOf at h
  split at h
  · split at h
    · rename_i h2
      subst h2
      cases h
      exact ⟨_, _, _, _, rfl, rfl⟩
    · cases h
  · cases h
theorem isN_ok (h : nonOf .Is e = some es) : OpOk X .isN e es ∧ OpT X .isN e es := by
  obtain ⟨a, j, p, p2, rfl, rfl⟩ := nonOf_ h
  refine ⟨⟨u1 rIsN, od_isN, fun tes T => ?_⟩, ⟨u1 rIsN, od_isN, fun tes T => ?_⟩⟩
  · obtain ⟨t, rfl, h1, _⟩ := T.one
    exact PE.imp (pe_cmp (pc_isN h1) (nomark _)) fun σ H Q w => w
  · obtain ⟨t, rfl, h1, _⟩ := T.one
    exact PT.imp (pt_cmp (pc_isN h1) (nomark _)) fun σ H Q w => w
theorem notN_ok (h : nonOf .IsNot e = some es) : OpOk X .notN e es ∧ OpT X .notN e es := by
  obtain ⟨a, j, p, p2, rfl, rfl⟩ := nonOf_ h
  refine ⟨⟨u1 rNotN, od_notN, fun tes T => ?_⟩, ⟨u1 rNotN, od_notN, fun tes T => ?_⟩⟩
  · obtain ⟨t, rfl, h1, _⟩ := T.one
    exact PE.imp (pe_cmp (pc_notN h1) (nomark _)) fun σ H Q w => w
  · obtain ⟨t, rfl, h1, _⟩ := T.one
    exact PT.imp (pt_cmp (pc_notN h1) (nomark _)) fun σ H Q w => w
theorem callB_ {n : Str} (h : callB C n e = some es) : ∃ x a r p pos, e = .Call (.Name x p) (a :: r) [] pos ∧ es = a :: r ∧ bltN C n x = true := by
  unfold callB at h
  split at h
  · split at h
    · cases h
      exact ⟨_, _, _, _, _, rfl, rfl, by assumption⟩
    · cases h
  · cases h
theorem one1_ {h0 : Option (List Expr)} (h : one1 h0 = some es) : h0 = some es ∧ ∃ a, es = [a] := by
  unfold one1 at h
  split at h
  · cases h; exact ⟨rfl, _, rfl⟩
  · cases h
theorem two2_ {h0 : Option (List Expr)} (h : two2 h0 = some es) : h0 = some es ∧ ∃ a b, es = [a, b] := by
  unfold two2 at h
  split at h
  · cases h; exact ⟨rfl, _, _, rfl⟩
  · cases h
theorem call_ok {n : Str} {id : String} {r : List V → Hp → VK → Prop} (O : XOk C U X) (hc : CallR X (.builtin id) r) (hv : bootBuiltins n = some (.builtin id)) (h : callB C n e = some es) :
    ∀ tes, PEs X es tes → PE X e fun σ H Q => chain tes σ H fun vs H' => r vs H' Q := by
  obtain ⟨x, a, l, p, pos, rfl, rfl, hb⟩ := callB_ h
  obtain ⟨rfl, g, m, nn, nd⟩ := bltN_ O hb
  intro tes T
  have pa := T.pa
  cases T with
  | cons n1 _ h1 t1 => exact PE.imp (pe_callB hc g m hv pa nn nd (star_no n1) t1.plain) fun σ H Q w => w
theorem callTy_ok {n : Str} {id : String} {r : List V → Hp → VK → Prop} (O : XOk C U X) (hc : CallR X (.type id) r) (hv : bootBuiltins n = some (.type id)) (h : callB C n e = some es) :
    ∀ tes, PEs X es tes → PE X e fun σ H Q => chain tes σ H fun vs H' => r vs H' Q := by
  obtain ⟨x, a, l, p, pos, rfl, rfl, hb⟩ := callB_ h
  obtain ⟨rfl, g, m, nn, nd⟩ := bltN_ O hb
  intro tes T
  have pa := T.pa
  cases T with
  | cons n1 _ h1 t1 => exact PE.imp (pe_callTy hc g m hv pa nn nd (star_no n1) t1.plain) fun σ H Q w => w
theorem c1_ok {n : Str} {r : List V → Hp → VK → Prop} (od : OpD1 o (c1 r)) (h : one1 (callB C n e) = some es) (k : callB C n e = some es → ∀ tes, PEs X es tes → PE X e fun σ H Q => chain tes σ H fun vs H' => r vs H' Q) : OpOk X o e es := by
  obtain ⟨h, a, rfl⟩ := one1_ h
  refine ⟨u1 (c1 r), od, fun tes T => PE.imp (k h tes T) fun σ H Q w => ?_⟩
  obtain ⟨t, rfl, _⟩ := T.one
  exact w
theorem c2_ok {n : Str} {r : List V → Hp → VK → Prop} (od : OpD2 o (c2 r)) (h : two2 (callB C n e) = some es) (k : callB C n e = some es → ∀ tes, PEs X es tes → PE X e fun σ H Q => chain tes σ H fun vs H' => r vs H' Q) : OpOk X o e es := by
  obtain ⟨h, a, b, rfl⟩ := two2_ h
  refine ⟨u2 (c2 r), od, fun tes T => PE.imp (k h tes T) fun σ H Q w => ?_⟩
  obtain ⟨t, u, rfl, _⟩ := T.two
  exact w
theorem isi_ok {n : Str} {id : String} (O : XOk C U X) (hv : bootBuiltins n = some (.type id)) (od : OpD1 o (rIs X.K id)) (h : isiOf C n e = some es) : OpOk X o e es := by
  unfold isiOf at h
  split at h
  · rename_i a y p hq
    split at h
    · rename_i hb
      cases h
      obtain ⟨y1, g, m, nn, nd⟩ := bltN_ O hb
      have py : PE X (.Name y p) (tC (.ty id)) := pe_bltn (u := .type id) g m (y1 ▸ hv) rfl nn nd
      refine ⟨u1 (rIs X.K id), od, fun tes T => ?_⟩
      cases T with
      | cons n1 m1 h1 t1 =>
      cases t1
      exact PE.imp (call_ok O call_isi boot_isinstance hq _ (.cons n1 m1 h1 (.cons rfl mo_tC py .nil))) fun σ H Q w => w
    · cases h
  · cases h
theorem rg_of (h : rgOf C e = some es) : ∃ x p pos y a l p2 pos2, e = .Call (.Name x p) [.Call (.Name y p2) (a :: l) [] pos2] [] pos ∧ es = a :: l ∧ bltN C "list" x = true ∧ bltN C "range" y = true := by
  unfold rgOf at h
  split at h
  · rename_i r hq
    obtain ⟨x, a, l, p, pos, rfl, e1, hb⟩ := callB_ hq
    cases e1
    obtain ⟨y, a, l, p2, pos2, rfl, rfl, hb2⟩ := callB_ h
    exact ⟨_, _, _, _, _, _, _, _, rfl, rfl, hb, hb2⟩
  · cases h
/-- the form of each operation is sound -/
theorem op_ok (O : XOk C U X) (h : opArgs C o e = some es) : OpOk X o e es := by
  have hu := O.un
  have hc := O.calm
  cases o with
  | add => exact bin_ok od_add (((op_add.or op_add_str).or op_catL).or op_catA) h
  | sub => exact bin_ok od_sub op_sub h
  | mul => exact bin_ok od_mul (op_mul.or op_repL) h
  | fdiv => exact bin_ok od_fdiv op_fdivN h
  | mod => exact bin_ok od_mod op_modN h
  | pow => exact bin_ok od_pow op_pow h
  | neg =>
    unfold opArgs at h
    simp only at h
    split at h
    · cases h
      refine ⟨u1 _, od_neg, fun tes T => ?_⟩
      obtain ⟨t, rfl, h1, _⟩ := T.one
      exact PE.imp (pe_un un_neg h1) fun σ H Q w => w
    · cases h
  | eq => exact (cmp_ok od_eq (op_eqD (by omega)) h).1
  | ne => exact (cmp_ok od_ne (op_neD (by omega)) h).1
  | lt => exact (cmp_ok od_lt (op_lt.or (op_ltD (by omega))) h).1
  | gt => exact (cmp_ok od_gt (op_gt.or (op_gtD (by omega))) h).1
  | le => exact (cmp_ok od_le op_le h).1
  | ge => exact (cmp_ok od_ge op_ge h).1
  | isIn => exact (cmp_ok od_isIn ((op_inS (by omega)).or (op_inDc (by omega))) h).1
  | notIn => exact (cmp_ok od_notIn ((op_notInS (by omega)).or (op_notInDc (by omega))) h).1
  | isN => exact (isN_ok h).1
  | notN => exact (notN_ok h).1
  | isB => exact (cmp_ok od_isB op_isBl h).1
  | notB => exact (cmp_ok od_notB op_notBl h).1
  | idx =>
    unfold opArgs at h
    simp only at h
    split at h
    · rename_i a b p
      split at h
      · rename_i hs
        cases h
        refine ⟨u2 _, od_idx (K := X.K), fun tes T => ?_⟩
        obtain ⟨t, u, rfl, h1, h2, _⟩ := T.two
        have ps : PlainIx b := fun o i => by cases b <;> first | rfl | cases hs
        exact PE.imp (pe_ix (ix_list.or (ix_tup.or (ix_dict (by omega)))) h1 h2 ps) fun σ H Q w => w
      · cases h
    · cases h
  | slice =>
    unfold opArgs at h
    simp only at h
    split at h
    · cases h
      refine ⟨r3Sl X.K, od_slice, fun tes T => ?_⟩
      obtain ⟨t, u, v, rfl, h1, h2, h3⟩ := T.three
      exact PE.imp (pe_sl3 h1 h2 h3) fun σ H Q w => w
    · cases h
  | sliceL =>
    unfold opArgs at h
    simp only at h
    split at h
    · cases h
      refine ⟨u2 _, od_sliceL (K := X.K), fun tes T => ?_⟩
      obtain ⟨t, u, rfl, h1, h2, _⟩ := T.two
      exact PE.imp (pe_slL h1 h2) fun σ H Q w => w
    · cases h
  | sliceH =>
    unfold opArgs at h
    simp only at h
    split at h
    · cases h
      refine ⟨u2 _, od_sliceH (K := X.K), fun tes T => ?_⟩
      obtain ⟨t, u, rfl, h1, h2, _⟩ := T.two
      exact PE.imp (pe_slH h1 h2) fun σ H Q w => w
    · cases h
  | rev =>
    unfold opArgs at h
    simp only at h
    split at h
    · cases h
      refine ⟨u1 _, od_rev (K := X.K), fun tes T => ?_⟩
      obtain ⟨t, rfl, h1, _⟩ := T.one
      exact PE.imp (pe_rev h1) fun σ H Q w => w
    · cases h
  | len => exact c1_ok od_len h (call_ok O cr_len boot_len)
  | int => exact c1_ok od_int h (callTy_ok O call_int1 PyProof.Rows.boot_int)
  | abs => exact c1_ok od_abs h (call_ok O call_abs boot_abs)
  | min1 => exact c1_ok od_min1 h (call_ok O (cr_minS false hc (by omega)) boot_min)
  | max1 => exact c1_ok od_max1 h (call_ok O (cr_minS true hc (by omega)) boot_max)
  | min2 => exact c2_ok od_min2 h (call_ok O (call_min2 hc) boot_min)
  | max2 => exact c2_ok od_max2 h (call_ok O (call_max2 hc) boot_max)
  | list => exact c1_ok od_list h (callTy_ok O call_list_of PyProof.Rows.boot_list)
  | tuple => exact c1_ok od_tuple h (callTy_ok O call_tuple_of PyProof.Rows.boot_tuple)
  | repr => exact c1_ok od_repr h (call_ok O (cr_repr O.gd (by omega)) boot_repr)
  | all => exact c1_ok od_all h (call_ok O (cr_all hc) boot_all)
  | any => exact c1_ok od_any h (call_ok O (cr_any hc) boot_any)
  | isInt => exact isi_ok O PyProof.Rows.boot_int od_isInt h
  | isBool => exact isi_ok O PyProof.Rows.boot_bool od_isBool h
  | isTuple => exact isi_ok O PyProof.Rows.boot_tuple od_isTuple h
  | isList => exact isi_ok O PyProof.Rows.boot_list od_isList h
  | isStr => exact isi_ok O PyProof.Rows.boot_str od_isStr h
  | range1 =>
    obtain ⟨h, a, rfl⟩ := one1_ (show one1 (rgOf C e) = some es from h)
    obtain ⟨x, p, pos, y, a', l, p2, pos2, rfl, e1, hb, hb2⟩ := rg_of h
    cases e1
    obtain ⟨rfl, g, m, _⟩ := bltN_ O hb
    obtain ⟨rfl, g2, m2, _⟩ := bltN_ O hb2
    refine ⟨u1 _, od_range1, fun tes T => ?_⟩
    obtain ⟨t, rfl, h1, n1⟩ := T.one
    exact PE.imp (pe_rg1 hc g m g2 m2 h1 (star_no n1)) fun σ H Q w => w
  | range2 =>
    obtain ⟨h, a, b, rfl⟩ := two2_ (show two2 (rgOf C e) = some es from h)
    obtain ⟨x, p, pos, y, a', l, p2, pos2, rfl, e1, hb, hb2⟩ := rg_of h
    cases e1
    obtain ⟨rfl, g, m, _⟩ := bltN_ O hb
    obtain ⟨rfl, g2, m2, _⟩ := bltN_ O hb2
    refine ⟨u2 _, od_range2, fun tes T => ?_⟩
    obtain ⟨t, u, rfl, h1, h2, n1, n2⟩ := T.two
    have pl := (PEs.cons n2 T.mo2 h2 .nil).plain (pos := pos2)
    exact PE.imp (pe_rg2 hc g m g2 m2 h1 h2 (star_no n1) (star_no n2) pl) fun σ H Q w => w
  | _ => exact nomatch (show none = some es from h)
/-- comparisons, as tests -/
def isCmp : Op → Bool
  | .eq => true
  | .ne => true
  | .lt => true
  | .gt => true
  | .le => true
  | .ge => true
  | .isIn => true
  | .notIn => true
  | .isN => true
  | .notN => true
  | .isB => true
  | .notB => true
  | _ => false
theorem op_okT (O : XOk C U X) (h : opArgs C o e = some es) (hc : isCmp o = true) : OpT X o e es := by
  have hu := O.un
  cases o with
  | eq => exact (cmp_ok od_eq (op_eqD (by omega)) h).2
  | ne => exact (cmp_ok od_ne (op_neD (by omega)) h).2
  | lt => exact (cmp_ok od_lt (op_lt.or (op_ltD (by omega))) h).2
  | gt => exact (cmp_ok od_gt (op_gt.or (op_gtD (by omega))) h).2
  | le => exact (cmp_ok od_le op_le h).2
  | ge => exact (cmp_ok od_ge op_ge h).2
  | isIn => exact (cmp_ok od_isIn ((op_inS (by omega)).or (op_inDc (by omega))) h).2
  | notIn => exact (cmp_ok od_notIn ((op_notInS (by omega)).or (op_notInDc (by omega))) h).2
  | isN => exact (isN_ok h).2
  | notN => exact (notN_ok h).2
  | isB => exact (cmp_ok od_isB op_isBl h).2
  | notB => exact (cmp_ok od_notB op_notBl h).2
  | _ => cases hc
end
end Dt
end
section
set_option Elab.async false
set_option linter.all false
set_option maxRecDepth 100000
set_option maxHeartbeats 4000000
/-! Targets, iterables. -/
namespace Dt
open PySem PySem.Spec PyProof.Rows L2
/-! ### where states agree -/
def Agr (js : List Nat) (σ σ' : L2.St) : Prop := σ'.length = σ.length ∧ ∀ j, j ∉ js → σ'[j]? = σ[j]?
theorem Agr.refl {js : List Nat} {σ : L2.St} : Agr js σ σ := ⟨rfl, fun _ _ => rfl⟩
theorem Agr.trans {js ks : List Nat} {σ σ' σ'' : L2.St} (h : Agr js σ σ') (k : Agr ks σ' σ'') : Agr (js ++ ks) σ σ'' := ⟨k.1.trans h.1, fun j hj => (k.2 j fun z => hj (List.mem_append_right _ z)).trans (h.2 j fun z => hj (List.mem_append_left _ z))⟩
theorem Agr.mono {js ks : List Nat} {σ σ' : L2.St} (h : Agr js σ σ') (s : ∀ j ∈ js, j ∈ ks) : Agr ks σ σ' := ⟨h.1, fun j hj => h.2 j fun z => hj (s j z)⟩
theorem Agr.set {σ : L2.St} {i : Nat} {o : Option V} : Agr [i] σ (σ.set i o) := ⟨List.length_set, fun j hj => List.getElem?_set_ne fun e => hj (by rw [e]; exact List.mem_singleton.mpr rfl)⟩
theorem wipe_get (σ : L2.St) : ∀ (vs : List Nat) (j : Nat), (wipe σ vs)[j]? = if j ∈ vs then (if j < σ.length then some none else none) else σ[j]?
  | [], j => by simp [wipe]
  | v :: vs, j => by
    unfold wipe
    rw [List.getElem?_set, wipe_get σ vs j, wipe_length]
    by_cases e : v = j
    · subst e
      simp
    · have e' : j ≠ v := fun z => e z.symm
      rw [if_neg e]
      by_cases m : j ∈ vs
      · simp [m]
      · simp [m, e']
theorem Agr.wipe {vs : List Nat} {σ σ' : L2.St} (h : Agr vs σ σ') : L2.wipe σ' vs = L2.wipe σ vs := by
  apply List.ext_getElem?
  intro j
  rw [wipe_get, wipe_get, h.1]
  by_cases m : j ∈ vs
  · simp [m]
  · simp [m, h.2 j m]
theorem wipeD_get (en : Sl) : ∀ (vs : List Nat) (j : Nat), (wipeD en vs)[j]? = if j ∈ vs then (if j < en.length then some none else none) else en[j]?
  | [], j => by simp [wipeD]
  | v :: vs, j => by
    unfold wipeD
    have hl : ∀ vs : List Nat, (wipeD en vs).length = en.length := by
      intro vs
      induction vs with
      | nil => rfl
      | cons v vs ih => unfold wipeD; rw [List.length_set, ih]
    rw [List.getElem?_set, wipeD_get en vs j, hl]
    by_cases e : v = j
    · subst e
      simp
    · have e' : j ≠ v := fun z => e z.symm
      rw [if_neg e]
      by_cases m : j ∈ vs
      · simp [m]
      · simp [m, e']
theorem SR.agree {md : List Md} {σ : L2.St} {en : Sl} {rs : List Root} (h : SR md σ en rs) : ∀ {σ' : L2.St}, σ'.length = σ.length → (∀ (j : Nat) d, en[j]? = some (some d) → σ'[j]? = σ[j]?) → SR md σ' en rs := by
  induction h with
  | nil =>
    intro σ' e _
    cases σ' with
    | nil => exact .nil
    | cons x r => cases e
  | @live m md v σ d en rs h ih =>
    intro σ' e k
    cases σ' with
    | nil => cases e
    | cons x r =>
      have := k 0 d rfl
      simp at this
      subst this
      exact .live (ih (by simpa using e) fun j d hj => by simpa using k (j + 1) d (by simpa using hj))
  | @dead m md o σ en rs h ih =>
    intro σ' e k
    cases σ' with
    | nil => cases e
    | cons x r => exact .dead (ih (by simpa using e) fun j d hj => by simpa using k (j + 1) d (by simpa using hj))
theorem RepS.wipes {md : List Md} {σ : L2.St} {en : Sl} {ts : List Root} {H : Hp} (h : RepS md σ en ts H) : ∀ vs : List Nat, RepS md (wipe σ vs) (wipeD en vs) ts H
  | [] => h
  | v :: vs => (RepS.wipes h vs).kill v none
theorem RepS.agree {md : List Md} {σ σ' : L2.St} {en : Sl} {ts : List Root} {H : Hp} (h : RepS md σ en ts H) (e : σ'.length = σ.length) (k : ∀ (j : Nat) d, en[j]? = some (some d) → σ'[j]? = σ[j]?) : RepS md σ' en ts H := by
  obtain ⟨rs, h1, h2⟩ := h
  exact ⟨rs, h1.agree e k, h2⟩
theorem RepS.unwipe {md : List Md} {σ : L2.St} {en : Sl} {ts : List Root} {H : Hp} {vs : List Nat} (h : RepS md (wipe σ vs) (wipeD en vs) ts H) : RepS md σ (wipeD en vs) ts H := by
  refine h.agree (wipe_length ..).symm fun j d e => ?_
  rw [wipeD_get] at e
  rw [wipe_get]
  by_cases m : j ∈ vs
  · rw [if_pos m] at e
    split at e
    · cases e
    · cases e
  · rw [if_neg m]
/-! ### targets -/
def tgs : Tg → List Nat
  | .v i => [i]
  | .nil => []
  | .cons a b => tgs a ++ tgs b
def tgE (C : Ck) (md : List Md) : Tg → Expr → Bool
  | .v i, .Name x _ => okT C i x && decide (md[i]? = some .F)
  | .nil, .Tuple [] _ _ => true
  | .cons a b, .Tuple (x :: xs) k p => tgE C md a x && tgE C md b (.Tuple xs k p)
  | _, _ => false
def fRoots (vs : List V) (ds : List D) : List Root := (vs.zip ds).map fun p => (p.1, p.2, .F)
def gD (md : List Md) (tg : Tg) : TG := fun v σ H Q => ∃ en ts d, RepS md σ en ((v, d, .F) :: ts) H ∧ ∃ en', asgT tg d en = some en' ∧ ∀ σ', RepS md σ' en' ts H → Agr (tgs tg) σ σ' → Q σ' H
def gsD (md : List Md) (tg : Tg) : TGs := fun vs σ H Q => ∃ en ts ds, vs.length = ds.length ∧ RepS md σ en (fRoots vs ds ++ ts) H ∧ ∃ en', asgT tg (.tuple ds) en = some en' ∧ ∀ σ', RepS md σ' en' ts H → Agr (tgs tg) σ σ' → Q σ' H
theorem asg_each {C : Ck} {md : List Md} {x : Expr} {a : Tg} {es : List Expr} {env : Env} (h : tgE C md a x = true) : assignEach (x :: es) env = (false, assign x env) :: assignEach es env := by
  cases x <;> first | rfl | (cases a <;> cases h)
theorem asg_len {C : Ck} {md : List Md} {env : Env} {k : Nat} {p : Pos} : ∀ {es : List Expr} {tg : Tg}, tgE C md tg (.Tuple es k p) = true → (assignEach es env).length = es.length ∧ (assignEach es env).findIdx? (·.1) = none
  | [], _, _ => ⟨rfl, rfl⟩
  | x :: xs, tg, h => by
    cases tg with
    | v i => cases h
    | nil => cases h
    | cons a b =>
      obtain ⟨h1, h2⟩ := Bool.and_eq_true_iff.mp (show (tgE C md a x && tgE C md b (.Tuple xs k p)) = true from h)
      obtain ⟨e1, e2⟩ := asg_len (env := env) h2
      rw [asg_each h1]
      refine ⟨by rw [List.length_cons, List.length_cons, e1], ?_⟩
      rw [List.findIdx?_cons]
      simp [e2]
theorem rdA_roots {H : Hp} {Z : Addr → Prop} : ∀ {vs : List V} {ds : List D} {rs : List Root} {fp : List Addr}, RdA H Z vs ds → RepZ rs H Z fp → RepZ (fRoots vs ds ++ rs) H Z fp
  | _, _, _, _, .nil, z => z
  | _, _, _, fp, @RdA.cons _ _ v vs d ds h t, z => by
    have z' := rdA_roots t z
    exact ⟨.cons (f := []) ⟨h, rfl⟩ z'.own, z'.nd, z'.off, z'.dom⟩
/-- a tuple's items as roots -/
theorem RepS.items {md : List Md} {σ : L2.St} {en : Sl} {ts : List Root} {H : Hp} {v : V} {ds : List D} (h : RepS md σ en ((v, .tuple ds, .F) :: ts) H) : ∃ a xs, v = .ref a ∧ H a = some (.tup xs) ∧ xs.length = ds.length ∧ RepS md σ en (fRoots xs ds ++ ts) H := by
  obtain ⟨rs, S, h2⟩ := h
  obtain ⟨Z, fp, z⟩ := h2.perm (perm_out)
  cases id z.own with
  | cons w t =>
    obtain ⟨w, e⟩ := w
    subst e
    obtain ⟨a, xs, rfl, e1, r⟩ := w.vw
    refine ⟨a, xs, rfl, e1, r.length, rs, S, ?_⟩
    have z2 : RepZ (rs ++ ts) H Z _ := ⟨t, z.nd, z.off, z.dom⟩
    have z3 : Rep (fRoots xs ds ++ (rs ++ ts)) H := ⟨_, _, rdA_roots r z2⟩
    refine z3.perm ?_
    rw [← List.append_assoc, ← List.append_assoc]
    exact (List.perm_append_comm).append_right ts
section
variable {C : Ck} {U : Ev} {X : Cx}
mutual
theorem pg_snd {md : List Md} (O : XOk C U X) : ∀ {tg : Tg} {e : Expr}, tgE C md tg e = true → PG X e (gD md tg)
  | .v i, e, h => by
    cases e with
    | Name x p =>
      obtain ⟨h1, h3⟩ := Bool.and_eq_true_iff.mp (show (okT C i x && decide (md[i]? = some .F)) = true from h)
      obtain ⟨h1, h2⟩ := Bool.and_eq_true_iff.mp (show (decide (C.N[i]? = some x) && sto C x) = true from h1)
      have h1 := of_decide_eq_true h1
      have h3 := of_decide_eq_true h3
      obtain ⟨l, f⟩ := O.sto h2
      refine ⟨fun pins s σ H v u Q I r w => (pg_name (i := i) O.nd (by rw [O.N]; exact h1) l f).run pins s σ H v u Q I r ?_⟩
      obtain ⟨en, ts, d, R, en', e1, q⟩ := w
      cases e1
      exact q _ (R.set h3) Agr.set
    | _ => cases h
  | .nil, e, h => by
    cases e with
    | Tuple es k p =>
      cases es with
      | cons x xs => cases h
      | nil =>
        refine ⟨fun pins s σ H v u Q I r w => (pg_tup (n := 0) O.calm pgs_nil).run pins s σ H v u Q I r ?_⟩
        obtain ⟨en, ts, d, R, en', e1, q⟩ := w
        cases d with
        | tuple ds =>
          cases ds with
          | nil =>
            cases e1
            obtain ⟨a, xs, rfl, e2, e3, R2⟩ := R.items
            have e3 : xs = [] := List.eq_nil_of_length_eq_zero e3
            subst e3
            exact ⟨a, [], rfl, .inl (.inl e2), rfl, rfl, q σ R2 Agr.refl⟩
          | cons x xs => cases e1
        | _ => cases e1
    | _ => cases h
  | .cons a b, e, h => by
    cases e with
    | Tuple es k p =>
      obtain ⟨e1, e2⟩ := asg_len (env := X.env) h
      refine ⟨fun pins s σ H v u Q I r w => (pg_tup (n := es.length) O.calm (pgs_snd O h) e1 e2).run pins s σ H v u Q I r ?_⟩
      obtain ⟨en, ts, d, R, en', e1, q⟩ := w
      cases d with
      | tuple ds =>
        obtain ⟨a', xs, rfl, e2, e3, R2⟩ := R.items
        have hl : ∀ {tg : Tg} {es : List Expr} {ds : List D} {en en' : Sl}, tgE C md tg (.Tuple es k p) = true → asgT tg (.tuple ds) en = some en' → ds.length = es.length := by
          intro tg
          induction tg with
          | v i => intro es ds en en' h; cases h
          | nil =>
            intro es ds en en' h e
            cases es with
            | cons _ _ => cases h
            | nil =>
              cases ds with
              | nil => rfl
              | cons _ _ => cases e
          | cons a b iha ihb =>
            intro es ds en en' h e
            cases es with
            | nil => cases h
            | cons x xs =>
              cases ds with
              | nil => cases e
              | cons d ds =>
                obtain ⟨en1, _, e2⟩ := Option.bind_eq_some_iff.mp (show (asgT a d en).bind _ = some en' from e)
                obtain ⟨_, h2⟩ := Bool.and_eq_true_iff.mp (show (tgE C md a x && tgE C md b (.Tuple xs k p)) = true from h)
                rw [List.length_cons, List.length_cons, ihb h2 e2]
        exact ⟨a', xs, rfl, .inl (.inl e2), by rw [e3]; exact hl h e1, en, ts, ds, e3, R2, en', e1, q⟩
      | _ => cases e1
    | _ => cases h
theorem pgs_snd {md : List Md} (O : XOk C U X) : ∀ {tg : Tg} {es : List Expr} {k : Nat} {p : Pos}, tgE C md tg (.Tuple es k p) = true → PGs X es (gsD md tg)
  | .v i, es, k, p, h => by cases h
  | .nil, es, k, p, h => by
    cases es with
    | cons _ _ => cases h
    | nil =>
      refine ⟨fun pins s σ H vs us Q I r w => pgs_nil.run pins s σ H vs us Q I r ?_⟩
      obtain ⟨en, ts, ds, hl, R, en', e1, q⟩ := w
      cases ds with
      | nil =>
        have : vs = [] := List.eq_nil_of_length_eq_zero hl
        subst this
        cases e1
        exact ⟨rfl, q σ R Agr.refl⟩
      | cons _ _ => cases e1
  | .cons a b, es, k, p, h => by
    cases es with
    | nil => cases h
    | cons x xs =>
      obtain ⟨h1, h2⟩ := Bool.and_eq_true_iff.mp (show (tgE C md a x && tgE C md b (.Tuple xs k p)) = true from h)
      have hs : (assignEach (x :: xs) X.env).map (·.2) = assign x X.env :: (assignEach xs X.env).map (·.2) := by rw [asg_each h1]; rfl
      refine ⟨fun pins s σ H vs us Q I r w => (pgs_cons (pg_snd O h1) (pgs_snd O h2) hs).run pins s σ H vs us Q I r ?_⟩
      obtain ⟨en, ts, ds, hl, R, en', e1, q⟩ := w
      cases ds with
      | nil => cases e1
      | cons d ds =>
        cases vs with
        | nil => cases hl
        | cons v vs =>
          obtain ⟨en1, e2, e3⟩ := Option.bind_eq_some_iff.mp (show (asgT a d en).bind _ = some en' from e1)
          refine ⟨v, vs, rfl, en, fRoots vs ds ++ ts, d, R, en1, e2, fun σ1 R1 a1 => ⟨en1, ts, ds, by simpa using hl, R1, en', e3, fun σ2 R2 a2 => q σ2 R2 (a1.trans a2)⟩⟩
end
end
end Dt
end
section
set_option Elab.async false
set_option linter.all false
set_option maxRecDepth 100000
set_option maxHeartbeats 4000000
/-! What loops and comprehensions walk. -/
namespace Dt
open PySem PySem.Spec PyProof.Rows L2
def Walk (J : It) (items : List D) (tr : List Root) : Prop := ∀ (i : Nat) (H : Hp) (rs : List Root), Rep (tr ++ rs) H →
  (items.length ≤ i → J.stop i H) ∧ ∀ d, items[i]? = some d → J.go i H ∧ ∀ x H', J.yld i H x H' → Rep ((x, d, .F) :: (tr ++ rs)) H'
def iD (md : List Md) (W : WX) (m : Sl → Out (List D)) : TI := fun σ H R => ∃ en ts, RepS md σ en ts H ∧ Post md W σ ts (m en) fun items en' => ∀ J H' tr, RepS md σ en' (tr ++ ts) H' → Walk J items tr → R J H'
def ItD (ik : Ik) (r : List V → Hp → (It → Hp → Prop) → Prop) : Prop := ∀ (H : Hp) (Z : Addr → Prop) (vs : List V) (ds items : List D) (R : It → Hp → Prop), RdA H Z vs ds → itemsF ik ds = some items → (∀ J, Walk J items (fRoots vs ds) → R J H) → r vs H R
theorem PI.imp {X : Cx} {tg e : Expr} {t t' : TI} (h : PI X tg e t) (q : ∀ σ H Q, t' σ H Q → t σ H Q) : PI X tg e t' := ⟨fun pins s σ H Q I w => h.run pins s σ H Q I (q σ H Q w)⟩
/-- the first root of a heap -/
theorem Rep.head {v : V} {d : D} {rs : List Root} {H : Hp} (h : Rep ((v, d, .F) :: rs) H) : ∃ Z fp, RepZ rs H Z fp ∧ Dt.Rd H Z v d := by
  obtain ⟨Z, fp, z⟩ := h
  cases id z.own with
  | cons w t =>
    obtain ⟨w, e⟩ := w
    subst e
    exact ⟨Z, _, ⟨t, z.nd, z.off, z.dom⟩, w⟩
theorem Rep.keep1 {v : V} {d : D} {r : Root} {rs : List Root} {H : Hp} {Z : Addr → Prop} {fp : List Addr} (z : RepZ rs H Z fp) (w : Dt.Rd H Z v d) (h : RepZ (r :: rs) H Z fp) : Rep (r :: (v, d, .F) :: rs) H :=
  (h.cons_rd w).perm (.swap _ _ _)
section
variable {K : PySem.W.Frag}
theorem walk_list {a : Addr} {ds : List D} : Walk (Itl K a) ds [(.ref a, .list ds, .F)] := by
  intro i H rs R
  obtain ⟨Z, fp, z, w⟩ := R.head
  obtain ⟨a', xs, e, l, r⟩ := w.vw
  cases e
  refine ⟨fun hi => ⟨xs, l.sq, by rw [r.length]; exact hi⟩, fun d hd => ?_⟩
  obtain ⟨v, e1, rv⟩ := r.get hd
  refine ⟨⟨xs, v, l.sq, e1⟩, fun x H' hy => ?_⟩
  obtain ⟨rfl, hy⟩ := hy
  have := hy xs l.sq
  rw [e1] at this
  cases this
  exact (show RepZ ((.ref a, .list ds, .F) :: rs) H' Z ([] ++ fp) from ⟨.cons ⟨w, rfl⟩ z.own, z.nd, z.off, z.dom⟩).cons_rd rv
theorem walk_tup {a : Addr} {ds : List D} : Walk (Itt K a) ds [(.ref a, .tuple ds, .F)] := by
  intro i H rs R
  obtain ⟨Z, fp, z, w⟩ := R.head
  obtain ⟨a', xs, e, l, r⟩ := w.vw
  cases e
  have l' : SqT K H a xs := .inl (.inl l)
  refine ⟨fun hi => ⟨xs, l', by rw [r.length]; exact hi⟩, fun d hd => ?_⟩
  obtain ⟨v, e1, rv⟩ := r.get hd
  refine ⟨⟨xs, v, l', e1⟩, fun x H' hy => ?_⟩
  obtain ⟨rfl, hy⟩ := hy
  have := hy xs l'
  rw [e1] at this
  cases this
  exact (show RepZ ((.ref a, .tuple ds, .F) :: rs) H' Z ([] ++ fp) from ⟨.cons ⟨w, rfl⟩ z.own, z.nd, z.off, z.dom⟩).cons_rd rv
theorem walk_range {lo hi : Int} {tr : List Root} : Walk (Itr lo (hi - lo).toNat) (rangeD lo hi) tr := by
  intro i H rs R
  have hl : (rangeD lo hi).length = (hi - lo).toNat := by unfold rangeD; rw [List.length_map, List.length_range]
  refine ⟨fun h => ?_, fun d hd => ?_⟩
  · show (hi - lo).toNat ≤ i
    omega
  · have hi' : i < (rangeD lo hi).length := (List.getElem?_eq_some_iff.mp hd).1
    refine ⟨show i < (hi - lo).toNat by omega, fun x H' hy => ?_⟩
    obtain ⟨rfl, rfl⟩ := hy
    have : d = .int (lo + i) := by
      unfold rangeD at hd
      rw [List.getElem?_map, List.getElem?_range (by omega)] at hd
      exact (Option.some.inj hd).symm
    subst this
    exact R.cons_rd fun Z => .int _
/-- a new tuple of two frozen values -/
theorem rep_pair {T : Addr} {x y : V} {a b : D} {rs : List Root} {H : Hp} {Z : Addr → Prop} {fp : List Addr} (z : RepZ rs H Z fp) (hT : H T = none) (hx : Dt.Rd H Z x a) (hy : Dt.Rd H Z y b) : Rep ((.ref T, .tuple [a, b], .F) :: rs) (upd H T (.tup [x, y])) :=
  z.pushT hT (.cons hx (.cons hy .nil))
theorem walk_enum {a : Addr} {ds : List D} : Walk (Ite K a) (ds.zipIdx.map fun p => .tuple [.int (p.2 : Nat), p.1]) [(.ref a, .list ds, .F)] := by
  intro i H rs R
  obtain ⟨Z, fp, z, w⟩ := R.head
  obtain ⟨a', xs, e, l, r⟩ := w.vw
  cases e
  refine ⟨fun hi => ⟨xs, l.sq, ?_⟩, fun d hd => ?_⟩
  · rw [List.length_map, List.length_zipIdx] at hi
    rw [r.length]
    exact hi
  rw [List.getElem?_map] at hd
  obtain ⟨p, hp, rfl⟩ := Option.map_eq_some_iff.mp hd
  rw [List.getElem?_zipIdx] at hp
  obtain ⟨d0, h0, rfl⟩ := Option.map_eq_some_iff.mp hp
  obtain ⟨v, e1, rv⟩ := r.get h0
  refine ⟨⟨xs, v, l.sq, e1⟩, fun x H' hy => ?_⟩
  obtain ⟨T, x1, rfl, hT, rfl, hy⟩ := hy
  have := hy xs l.sq
  rw [e1] at this
  cases this
  have zz : RepZ ((.ref a, .list ds, .F) :: rs) H Z ([] ++ fp) := ⟨.cons ⟨w, rfl⟩ z.own, z.nd, z.off, z.dom⟩
  have e : ((0 + i : Nat) : Int) = (i : Int) := by omega
  show Rep ((V.ref T, PyData.tuple [.int ((0 + i : Nat) : Int), d0], Md.F) :: _) _
  rw [e]
  exact rep_pair zz hT (.int _) rv
theorem walk_zip {a b : Addr} {ds es : List D} : Walk (Itz K a b) ((ds.zip es).map fun p => .tuple [p.1, p.2]) [(.ref a, .list ds, .F), (.ref b, .list es, .F)] := by
  intro i H rs R
  obtain ⟨Z, fp, z⟩ := R
  obtain ⟨f1, ⟨w1, _⟩, _⟩ := z.own.get (List.mem_cons_self ..)
  obtain ⟨f2, ⟨w2, _⟩, _⟩ := z.own.get (List.mem_cons_of_mem _ (List.mem_cons_self ..))
  obtain ⟨a', xs, e, l1, r1⟩ := w1.vw
  cases e
  obtain ⟨b', ys, e, l2, r2⟩ := w2.vw
  cases e
  refine ⟨fun hi => ⟨xs, ys, l1.sq, l2.sq, ?_⟩, fun d hd => ?_⟩
  · rw [List.length_map, List.length_zip] at hi
    rw [r1.length, r2.length]
    omega
  rw [List.getElem?_map] at hd
  obtain ⟨p, hp, rfl⟩ := Option.map_eq_some_iff.mp hd
  obtain ⟨h1, h2⟩ := List.getElem?_zip_eq_some.mp hp
  obtain ⟨v1, e1, rv1⟩ := r1.get h1
  obtain ⟨v2, e2, rv2⟩ := r2.get h2
  refine ⟨⟨xs, ys, v1, v2, l1.sq, l2.sq, e1, e2⟩, fun x H' hy => ?_⟩
  obtain ⟨T, x1, y1, rfl, hT, rfl, hy1, hy2⟩ := hy
  have q1 := hy1 xs l1.sq
  rw [e1] at q1
  cases q1
  have q2 := hy2 ys l2.sq
  rw [e2] at q2
  cases q2
  exact rep_pair z hT rv1 rv2
theorem walk_zipT {a b : Addr} {ds es : List D} : Walk (RZ.ItzT K a b) ((ds.zip es).map fun p => .tuple [p.1, p.2]) [(.ref a, .tuple ds, .F), (.ref b, .tuple es, .F)] := by
  intro i H rs R
  obtain ⟨Z, fp, z⟩ := R
  obtain ⟨f1, ⟨w1, _⟩, _⟩ := z.own.get (List.mem_cons_self ..)
  obtain ⟨f2, ⟨w2, _⟩, _⟩ := z.own.get (List.mem_cons_of_mem _ (List.mem_cons_self ..))
  obtain ⟨a', xs, e, l1, r1⟩ := w1.vw
  cases e
  obtain ⟨b', ys, e, l2, r2⟩ := w2.vw
  cases e
  have s1 : SqT K H a xs := .inl (.inl l1)
  have s2 : SqT K H b ys := .inl (.inl l2)
  refine ⟨fun hi => ⟨xs, ys, s1, s2, ?_⟩, fun d hd => ?_⟩
  · rw [List.length_map, List.length_zip] at hi
    rw [r1.length, r2.length]
    omega
  rw [List.getElem?_map] at hd
  obtain ⟨p, hp, rfl⟩ := Option.map_eq_some_iff.mp hd
  obtain ⟨h1, h2⟩ := List.getElem?_zip_eq_some.mp hp
  obtain ⟨v1, e1, rv1⟩ := r1.get h1
  obtain ⟨v2, e2, rv2⟩ := r2.get h2
  refine ⟨⟨xs, ys, v1, v2, s1, s2, e1, e2⟩, fun x H' hy => ?_⟩
  obtain ⟨T, x1, y1, rfl, hT, rfl, hy1, hy2⟩ := hy
  have q1 := hy1 xs s1
  rw [e1] at q1
  cases q1
  have q2 := hy2 ys s2
  rw [e2] at q2
  cases q2
  exact rep_pair z hT rv1 rv2
end
/-! ### the forms -/
def notSet : Expr → Bool
  | .Set _ _ _ => false
  | _ => true
def itArgs (C : Ck) (ik : Ik) (tg : Expr) (e : Expr) : Option (List Expr) := match ik with
  | .seq => if notSet e then some [e] else none
  | .range1 => one1 (callB C "range" e)
  | .range2 => two2 (callB C "range" e)
  | .enum => (match tg with
    | .Tuple _ _ _ => one1 (callB C "enumerate" e)
    | _ => none)
  | .zip => (match tg with
    | .Tuple _ _ _ => two2 (callB C "zip" e)
    | _ => none)
  | _ => none
section
variable {C : Ck} {U : Ev} {X : Cx} {tg e : Expr} {es : List Expr} {ik : Ik}
def rSeq (K : PySem.W.Frag) : List V → Hp → (It → Hp → Prop) → Prop := fun vs H R => match vs with
  | [x] => (∃ a xs, x = .ref a ∧ SqL K H a xs ∧ R (Itl K a) H) ∨ ∃ a xs, x = .ref a ∧ SqT K H a xs ∧ R (Itt K a) H
  | _ => False
theorem pi_seq {tl : TE} (hl : PE X e tl) : PI X tg e (fun σ H R => tl σ H fun x H1 => rSeq X.K [x] H1 R) := by
  refine ⟨fun pins s σ H R I h => thn (hl.run pins s σ H _ I h) fun v s1 ⟨x, H1, I1, r1, q1⟩ => ?_⟩
  have fresh : ∀ b ∈ [s1.heap.objs.size], FpOk X pins H1 b := fun b hb => by
    cases List.mem_singleton.mp hb
    exact I1.fpOk (Nat.le_refl _) (I1.hok.fresh (Nat.le_refl _))
  rcases q1 with ⟨a, xs, rfl, hq, q⟩ | ⟨a, xs, rfl, hq, q⟩
  · cases r1
    obtain ⟨its, rv, pl, _⟩ := I1.list hq
    exact wpAny_pyIter_list pl.isList ⟨_, _, _, _, H1, rfl, I1.kept (t' := s1.toks) fun b o e => Heap.get?_push_of_some _ e, turn_list a _, ⟨_, Heap.get?_push_size _ rfl, rfl, rfl⟩, fresh, q⟩
  · cases r1
    obtain ⟨its, rv, pl, _⟩ := I1.tuple hq
    exact wpAny_pyIter_tuple (show s1.heap.IsTuple a its.toArray from pl) ⟨_, _, _, _, H1, rfl, I1.kept (t' := s1.toks) fun b o e => Heap.get?_push_of_some _ e, turn_tuple a _, ⟨_, Heap.get?_push_size _ rfl, rfl, rfl⟩, fresh, q⟩
theorem id_seq {K : PySem.W.Frag} : ItD .seq (rSeq K) := by
  intro H Z vs ds items R r e q
  cases r with
  | nil => cases e
  | cons w t =>
    cases t with
    | cons w2 t => cases t <;> exact nomatch (show none = some items from e)
    | nil =>
      rename_i v d
      cases d with
      | list ds =>
        cases e
        obtain ⟨a, xs, rfl, l, _⟩ := w.vw
        exact .inl ⟨a, xs, rfl, l.sq, q _ walk_list⟩
      | tuple ds =>
        cases e
        obtain ⟨a, xs, rfl, l, _⟩ := w.vw
        exact .inr ⟨a, xs, rfl, .inl (.inl l), q _ walk_tup⟩
      | _ => cases e
def rR1 : List V → Hp → (It → Hp → Prop) → Prop := fun vs H R => ∃ j : Int, vs = [.int j] ∧ -(2 ^ 62) ≤ j ∧ j < 2 ^ 62 ∧ R (Itr 0 j.toNat) H
def rR2 : List V → Hp → (It → Hp → Prop) → Prop := fun vs H R => ∃ i j : Int, vs = [.int i, .int j] ∧ (-(2 ^ 62) ≤ i ∧ i < 2 ^ 62 ∧ -(2 ^ 62) ≤ j ∧ j < 2 ^ 62) ∧ R (Itr i (j - i).toNat) H
theorem inR_ {i : Int} (h : inR i = true) : -(2 ^ 62) ≤ i ∧ i < 2 ^ 62 := by
  unfold inR at h
  simpa only [Bool.and_eq_true, decide_eq_true_eq] using h
theorem id_r1 : ItD .range1 rR1 := by
  intro H Z vs ds items R r e q
  cases r with
  | nil => cases e
  | cons w t =>
    cases t with
    | cons w2 t => cases t <;> exact nomatch (show none = some items from e)
    | nil =>
      rename_i v d
      cases d with
      | int n =>
        have e : (if inR n then some (rangeD 0 n) else none) = some items := e
        split at e
        · rename_i hn
          cases e
          cases vw_int w.vw
          have := q _ (walk_range (lo := 0) (hi := n))
          rw [Int.sub_zero] at this
          exact ⟨n, rfl, (inR_ hn).1, (inR_ hn).2, this⟩
        · cases e
      | _ => cases e
theorem id_r2 : ItD .range2 rR2 := by
  intro H Z vs ds items R r e q
  cases r with
  | nil => cases e
  | cons w t =>
    cases t with
    | nil => exact nomatch (show none = some items from e)
    | cons w2 t =>
      cases t with
      | cons w3 t => exact nomatch (show none = some items from e)
      | nil =>
        rename_i v d v2 d2
        cases d with
        | int a =>
          cases d2 with
          | int b =>
            have e : (if inR a && inR b then some (rangeD a b) else none) = some items := e
            split at e
            · rename_i hn
              obtain ⟨h1, h2⟩ := Bool.and_eq_true_iff.mp hn
              cases e
              cases vw_int w.vw
              cases vw_int w2.vw
              exact ⟨a, b, rfl, ⟨(inR_ h1).1, (inR_ h1).2, (inR_ h2).1, (inR_ h2).2⟩, q _ walk_range⟩
            · cases e
          | _ => cases e
        | _ => cases e
def rEn (K : PySem.W.Frag) : List V → Hp → (It → Hp → Prop) → Prop := fun vs H R => ∃ a xs, vs = [.ref a] ∧ SqL K H a xs ∧ R (Ite K a) H
theorem id_en {K : PySem.W.Frag} : ItD .enum (rEn K) := by
  intro H Z vs ds items R r e q
  cases r with
  | nil => cases e
  | cons w t =>
    cases t with
    | cons w2 t => cases t <;> exact nomatch (show none = some items from e)
    | nil =>
      rename_i v d
      cases d with
      | list ds =>
        cases e
        obtain ⟨a, xs, rfl, l, _⟩ := w.vw
        exact ⟨a, xs, rfl, l.sq, q _ walk_enum⟩
      | _ => cases e
def rZp (K : PySem.W.Frag) : List V → Hp → (It → Hp → Prop) → Prop := fun vs H R => ∃ a b xs ys, vs = [.ref a, .ref b] ∧ ((SqL K H a xs ∧ SqL K H b ys ∧ R (Itz K a b) H) ∨ (SqT K H a xs ∧ SqT K H b ys ∧ R (RZ.ItzT K a b) H))
theorem id_zp {K : PySem.W.Frag} : ItD .zip (rZp K) := by
  intro H Z vs ds items R r e q
  cases r with
  | nil => cases e
  | cons w t =>
    cases t with
    | nil => exact nomatch (show none = some items from e)
    | cons w2 t =>
      cases t with
      | cons w3 t => exact nomatch (show none = some items from e)
      | nil =>
        rename_i v d v2 d2
        cases d with
        | list ds =>
          cases d2 with
          | list es =>
            cases e
            obtain ⟨a, xs, rfl, l, _⟩ := w.vw
            obtain ⟨b, ys, rfl, l2, _⟩ := w2.vw
            exact ⟨a, b, xs, ys, rfl, .inl ⟨l.sq, l2.sq, q _ walk_zip⟩⟩
          | _ => cases e
        | tuple ds =>
          cases d2 with
          | tuple es =>
            cases e
            obtain ⟨a, xs, rfl, l, _⟩ := w.vw
            obtain ⟨b, ys, rfl, l2, _⟩ := w2.vw
            exact ⟨a, b, xs, ys, rfl, .inr ⟨.inl (.inl l), .inl (.inl l2), q _ walk_zipT⟩⟩
          | _ => cases e
        | _ => cases e
theorem boot_enum0 : bootBuiltins "enumerate" = some (.type "enumerate") := by decide +kernel
/-- the forms are sound -/
theorem it_ok (O : XOk C U X) (h : itArgs C ik tg e = some es) : ∃ r, ItD ik r ∧ (∀ tes, PEs X es tes → PI X tg e fun σ H R => chain tes σ H fun vs H' => r vs H' R) ∧ ∀ env x, foldedSetIterable e env x = pure x := by
  have cl : ∀ {n : Str} {l : List Expr}, callB C n e = some l → ∀ env x, foldedSetIterable e env x = pure x := fun {n l} h env x => by
    obtain ⟨_, _, _, _, _, rfl, _⟩ := callB_ h
    rfl
  cases ik with
  | seq =>
    have h : (if notSet e then some [e] else none) = some es := h
    split at h
    · rename_i hs
      cases h
      refine ⟨rSeq X.K, id_seq, fun tes T => ?_, fun env x => by cases e <;> first | rfl | cases hs⟩
      obtain ⟨t, rfl, h1, _⟩ := T.one
      exact PI.imp (pi_seq h1) fun σ H R w => w
    · cases h
  | range1 =>
    obtain ⟨h, a, rfl⟩ := one1_ (show one1 (callB C "range" e) = some es from h)
    refine ⟨rR1, id_r1, fun tes T => ?_, cl h⟩
    obtain ⟨x, a', l, p, pos, rfl, e1, hb⟩ := callB_ h
    cases e1
    obtain ⟨rfl, g, m, _⟩ := bltN_ O hb
    obtain ⟨t, rfl, h1, n1⟩ := T.one
    exact PI.imp (pi_range1 g m T.pa (star_no n1)) fun σ H R w => w
  | range2 =>
    obtain ⟨h, a, b, rfl⟩ := two2_ (show two2 (callB C "range" e) = some es from h)
    refine ⟨rR2, id_r2, fun tes T => ?_, cl h⟩
    obtain ⟨x, a', l, p, pos, rfl, e1, hb⟩ := callB_ h
    cases e1
    obtain ⟨rfl, g, m, _⟩ := bltN_ O hb
    obtain ⟨t, u, rfl, h1, h2, n1, n2⟩ := T.two
    have s2 : starEach [b] X.env = [(false, eval b X.env)] := star_no n2
    exact PI.imp (pi_range2 g m T.pa ((star_no n1).trans (by rw [s2])) s2) fun σ H R w => w
  | enum =>
    unfold itArgs at h
    simp only at h
    split at h
    · obtain ⟨h, a, rfl⟩ := one1_ h
      refine ⟨rEn X.K, id_en, fun tes T => ?_, cl h⟩
      obtain ⟨x, a', l, p, pos, rfl, e1, hb⟩ := callB_ h
      cases e1
      obtain ⟨rfl, g, m, _⟩ := bltN_ O hb
      obtain ⟨t, rfl, h1, n1⟩ := T.one
      exact PI.imp (pi_enum g m T.pa (star_no n1)) fun σ H R w => w
    · cases h
  | zip =>
    unfold itArgs at h
    simp only at h
    split at h
    · obtain ⟨h, a, b, rfl⟩ := two2_ h
      refine ⟨rZp X.K, id_zp, fun tes T => ?_, cl h⟩
      obtain ⟨x, a', l, p, pos, rfl, e1, hb⟩ := callB_ h
      cases e1
      obtain ⟨rfl, g, m, _⟩ := bltN_ O hb
      obtain ⟨t, u, rfl, h1, h2, n1, n2⟩ := T.two
      exact PI.imp (RZ.pi_zipA g m T.pa (star_no n1) (PEs.cons n2 T.mo2 h2 .nil).plain) fun σ H R w => w
    · cases h
  | range3 => exact nomatch (show none = some es from h)
end
end Dt
end
section
set_option Elab.async false
set_option linter.all false
set_option maxRecDepth 100000
set_option maxHeartbeats 4000000
/-! What is owned is changed in place. -/
namespace Dt
open PySem PySem.Spec PyProof.Rows L2
def Kids (H : Hp) (Z : Addr → Prop) (m : Md) (o : HO) (d : D) (fs : List Addr) : Prop :=
  (∃ xs ds, o = .lst xs ∧ d = .list ds ∧ OwnA (Own H Z m) xs ds fs) ∨ (∃ kvs es, o = .dK kvs ∧ d = .dict es ∧ OwnE (Own H Z m) (kvs.map eK) es fs) ∨
  ∃ kvs es, kvs ≠ [] ∧ o = .dT kvs ∧ d = .dict es ∧ OwnE (Own H Z m) (kvs.map eT) es fs
/-- a root that owns its object, taken apart -/
structure Open1 (H : Hp) (Z : Addr → Prop) (a : Addr) (m : Md) (d : D) (rs : List Root) (o : HO) (fs g : List Addr) : Prop where
  at1 : H a = some o
  kids : Kids H Z m o d fs
  rest : OwnR H Z rs g
  nd : (a :: (fs ++ g)).Nodup
  off : ∀ b ∈ a :: (fs ++ g), ¬ Z b
  dom : ∀ b, Z b → H b ≠ none
theorem rep_open {H : Hp} {a : Addr} {m : Md} {d : D} {rs : List Root} (h : Rep ((.ref a, d, .O m) :: rs) H) : ∃ Z o fs g, Open1 H Z a m d rs o fs g := by
  obtain ⟨Z, fp, z, nd, off, dom⟩ := h
  cases z with
  | @cons _ _ _ _ f g w t =>
    obtain ⟨a', fs, e, rfl, k⟩ := w
    cases e
    rcases k with ⟨xs, ds, h1, h2, h3⟩ | ⟨xs, ds, h1, h2, h3⟩ | ⟨xs, ds, n, h1, h2, h3⟩
    · exact ⟨Z, _, fs, g, h1, .inl ⟨xs, ds, rfl, h2, h3⟩, t, nd, off, dom⟩
    · exact ⟨Z, _, fs, g, h1, .inr (.inl ⟨xs, ds, rfl, h2, h3⟩), t, nd, off, dom⟩
    · exact ⟨Z, _, fs, g, h1, .inr (.inr ⟨xs, ds, n, rfl, h2, h3⟩), t, nd, off, dom⟩
theorem Kids.mut {H : Hp} {Z : Addr → Prop} {m : Md} {o : HO} {d : D} {fs : List Addr} (h : Kids H Z m o d fs) : imm o = false := by
  rcases h with ⟨_, _, rfl, _⟩ | ⟨_, _, rfl, _⟩ | ⟨_, _, _, rfl, _⟩ <;> rfl
theorem rep_close {H : Hp} {Z : Addr → Prop} {a : Addr} {m : Md} {d' : D} {rs : List Root} {o o0 : HO} {fs g : List Addr} (h0 : H a = some o0) (im : imm o0 = false) (k : Kids H Z m o d' fs) (t : OwnR H Z rs g) (nd : (a :: (fs ++ g)).Nodup)
    (off : ∀ b ∈ a :: (fs ++ g), ¬ Z b) (dom : ∀ b, Z b → H b ≠ none) : Rep ((.ref a, d', .O m) :: rs) (upd H a o) := by
  have na : ¬ Z a := off a (List.mem_cons_self ..)
  have x : Ext Z H (upd H a o) := fun b u e q => by
    by_cases z : b = a
    · subst z
      rw [h0] at e
      cases e
      rcases q with q | q
      · exact (na q).elim
      · rw [im] at q; cases q
    · rw [upd_ne z]; exact e
  have hne : ∀ b ∈ fs ++ g, b ≠ a := fun b hb e => (List.nodup_cons.mp nd).1 (e ▸ hb)
  have s1 : ∀ b ∈ fs, upd H a o b = H b := fun b hb => upd_ne (hne b (List.mem_append_left _ hb))
  have s2 : ∀ b ∈ g, upd H a o b = H b := fun b hb => upd_ne (hne b (List.mem_append_right _ hb))
  have t' := t.mono x (fun _ q => q) s2
  refine ⟨Z, (a :: fs) ++ g, .cons ⟨a, fs, rfl, rfl, ?_⟩ t', nd, off, fun b hb => ?_⟩
  · rcases k with ⟨xs, ds, rfl, rfl, h3⟩ | ⟨xs, ds, rfl, rfl, h3⟩ | ⟨xs, ds, n, rfl, rfl, h3⟩
    · exact .inl ⟨xs, ds, upd_same, rfl, h3.imp fun v d f p q => p.mono x (fun _ z => z) fun b hb => s1 b (q b hb)⟩
    · exact .inr (.inl ⟨xs, ds, upd_same, rfl, h3.imp fun v d f p q => p.mono x (fun _ z => z) fun b hb => s1 b (q b hb)⟩)
    · exact .inr (.inr ⟨xs, ds, n, upd_same, rfl, h3.imp fun v d f p q => p.mono x (fun _ z => z) fun b hb => s1 b (q b hb)⟩)
  · by_cases z : b = a
    · subst z; rw [upd_same]; exact fun q => nomatch q
    · rw [upd_ne z]; exact dom b hb
theorem OwnA.app {P : V → D → List Addr → Prop} : ∀ {xs ys : List V} {ds es : List D} {f g : List Addr}, OwnA P xs ds f → OwnA P ys es g → OwnA P (xs ++ ys) (ds ++ es) (f ++ g)
  | _, _, _, _, _, _, .nil, k => k
  | _, _, _, _, _, _, .cons h t, k => by
    rw [List.append_assoc]
    exact .cons h (t.app k)
theorem OwnA.length {P : V → D → List Addr → Prop} : ∀ {xs : List V} {ds : List D} {f : List Addr}, OwnA P xs ds f → xs.length = ds.length
  | _, _, _, .nil => rfl
  | _, _, _, .cons _ t => congrArg (· + 1) t.length
theorem OwnE.length {P : V → D → List Addr → Prop} : ∀ {xs : List (D × V)} {ds : List (D × D)} {f : List Addr}, OwnE P xs ds f → xs.length = ds.length
  | _, _, _, .nil => rfl
  | _, _, _, .cons _ t => congrArg (· + 1) t.length
/-- l.append(y) -/
theorem rep_append {H : Hp} {a : Addr} {m : Md} {ds : List D} {rs : List Root} {y : V} {d : D} (h : Rep ((y, d, m) :: (.ref a, .list ds, .O m) :: rs) H) : ∃ xs, H a = some (.lst xs) ∧ xs.length = ds.length ∧ Rep ((.ref a, .list (ds ++ [d]), .O m) :: rs) (upd H a (.lst (xs ++ [y]))) := by
  obtain ⟨Z, fp, z, nd, off, dom⟩ := h
  cases z with
  | @cons _ _ _ _ f0 _ w t =>
    cases t with
    | @cons _ _ _ _ f g w2 t =>
      obtain ⟨a', fs, e, rfl, k⟩ := w2
      cases e
      rcases k with ⟨xs, ds', h1, h2, h3⟩ | ⟨xs, ds', h1, h2, h3⟩ | ⟨xs, ds', n, h1, h2, h3⟩
      · cases h2
        have p : (f0 ++ ((a :: fs) ++ g)).Perm (a :: ((fs ++ (f0 ++ [])) ++ g)) := by
          rw [List.append_nil, List.cons_append]
          refine List.perm_middle.trans (List.Perm.cons _ ?_)
          rw [← List.append_assoc]
          exact (List.perm_append_comm).append_right g
        refine ⟨xs, h1, h3.length, rep_close h1 rfl (.inl ⟨_, _, rfl, rfl, h3.app (.cons w .nil)⟩) t (p.nodup_iff.mp nd) (fun b hb => off b (p.mem_iff.mpr hb)) dom⟩
      · cases h2
      · cases h2
theorem OwnA.setAt {P : V → D → List Addr → Prop} : ∀ {xs : List V} {ds : List D} {f : List Addr} {j : Nat} {dj : D}, OwnA P xs ds f → ds[j]? = some dj → ∃ vj fj fr, xs[j]? = some vj ∧ P vj dj fj ∧ f.Perm (fj ++ fr) ∧
    ∀ v d g, P v d g → ∃ f', OwnA P (xs.set j v) (ds.set j d) f' ∧ f'.Perm (g ++ fr)
  | _, _, _, _, _, .nil, e => by simp at e
  | _, _, _, 0, _, @OwnA.cons _ v vs d ds f g h t, e => by
    simp at e
    subst e
    exact ⟨v, f, g, rfl, h, .refl _, fun v' d' g' p => ⟨g' ++ g, .cons p t, .refl _⟩⟩
  | _, _, _, j + 1, _, @OwnA.cons _ v vs d ds f g h t, e => by
    obtain ⟨vj, fj, fr, h1, h2, h3, h4⟩ := t.setAt (j := j) (by simpa using e)
    refine ⟨vj, fj, f ++ fr, by simpa using h1, h2, ?_, fun v' d' g' p => ?_⟩
    · refine (h3.append_left f).trans ?_
      rw [← List.append_assoc, ← List.append_assoc]
      exact (List.perm_append_comm).append_right fr
    · obtain ⟨f', q1, q2⟩ := h4 v' d' g' p
      refine ⟨f ++ f', .cons h q1, (q2.append_left f).trans ?_⟩
      rw [← List.append_assoc, ← List.append_assoc]
      exact (List.perm_append_comm).append_right fr
/-- l[j] = y -/
theorem rep_setAt {H : Hp} {a : Addr} {m : Md} {ds : List D} {rs : List Root} {y : V} {d dj : D} {j : Nat} (h : Rep ((y, d, m) :: (.ref a, .list ds, .O m) :: rs) H) (hj : ds[j]? = some dj) :
    ∃ xs vj, H a = some (.lst xs) ∧ xs.length = ds.length ∧ xs[j]? = some vj ∧ Rep ((.ref a, .list (ds.set j d), .O m) :: rs) (upd H a (.lst (xs.set j y))) := by
  obtain ⟨Z, fp, z, nd, off, dom⟩ := h
  cases z with
  | @cons _ _ _ _ f0 _ w t =>
    cases t with
    | @cons _ _ _ _ f g w2 t =>
      obtain ⟨a', fs, e, rfl, k⟩ := w2
      cases e
      rcases k with ⟨xs, ds', h1, h2, h3⟩ | ⟨xs, ds', h1, h2, h3⟩ | ⟨xs, ds', n, h1, h2, h3⟩
      · cases h2
        obtain ⟨vj, fj, fr, e1, e2, e3, e4⟩ := h3.setAt hj
        obtain ⟨f', k1, k2⟩ := e4 y d f0 w
        have p : (f0 ++ ((a :: fs) ++ g)).Perm (fj ++ (a :: (f' ++ g))) := by
          rw [List.cons_append]
          have p1 : (f0 ++ a :: (fs ++ g)).Perm (a :: (f0 ++ ((fj ++ fr) ++ g))) := List.perm_middle.trans (List.Perm.cons _ ((e3.append_right g).append_left f0))
          have p2 : (fj ++ a :: (f' ++ g)).Perm (a :: (fj ++ ((f0 ++ fr) ++ g))) := List.perm_middle.trans (List.Perm.cons _ ((k2.append_right g).append_left fj))
          refine p1.trans (List.Perm.trans (List.Perm.cons _ ?_) p2.symm)
          simp only [List.append_assoc]
          exact List.perm_append_comm_assoc ..
        have nd' := p.nodup_iff.mp nd
        refine ⟨xs, vj, h1, h3.length, e1, rep_close h1 rfl (.inl ⟨_, _, rfl, rfl, k1⟩) t (List.nodup_append.mp nd').2.1 (fun b hb => off b (p.mem_iff.mpr (List.mem_append_right _ hb))) dom⟩
      · cases h2
      · cases h2
/-- an owned list of frozen items, as it stands -/
theorem rep_list {H : Hp} {a : Addr} {m : Md} {ds : List D} {rs : List Root} (h : Rep ((.ref a, .list ds, .O m) :: rs) H) : ∃ xs, H a = some (.lst xs) ∧ xs.length = ds.length := by
  obtain ⟨Z, o, fs, g, O⟩ := rep_open h
  rcases O.kids with ⟨xs, ds', rfl, e, k⟩ | ⟨xs, ds', rfl, e, k⟩ | ⟨xs, ds', n, rfl, e, k⟩
  · cases e; exact ⟨xs, O.at1, k.length⟩
  · cases e
  · cases e
/-- l.extend(k), k a new list -/
theorem rep_extend {H : Hp} {a b : Addr} {m : Md} {ds es : List D} {rs : List Root} (h : Rep ((.ref b, .list es, .O m) :: (.ref a, .list ds, .O m) :: rs) H) :
    ∃ xs ys, H a = some (.lst xs) ∧ H b = some (.lst ys) ∧ xs.length = ds.length ∧ ys.length = es.length ∧ Rep ((.ref a, .list (ds ++ es), .O m) :: rs) (upd H a (.lst (xs ++ ys))) := by
  obtain ⟨Z, fp, z, nd, off, dom⟩ := h
  cases z with
  | @cons _ _ _ _ f0 _ w t =>
    cases t with
    | @cons _ _ _ _ f g w2 t =>
      obtain ⟨a', fs, e, rfl, k⟩ := w2
      cases e
      obtain ⟨b', hs, e, rfl, kb⟩ := w
      cases e
      rcases k with ⟨xs, ds', h1, h2, h3⟩ | ⟨xs, ds', h1, h2, h3⟩ | ⟨xs, ds', n, h1, h2, h3⟩
      · cases h2
        rcases kb with ⟨ys, es', g1, g2, g3⟩ | ⟨ys, es', g1, g2, g3⟩ | ⟨ys, es', n, g1, g2, g3⟩
        · cases g2
          have p : ((b :: hs) ++ ((a :: fs) ++ g)).Perm ([b] ++ (a :: ((fs ++ hs) ++ g))) := by
            simp only [List.cons_append, List.nil_append]
            refine List.Perm.cons _ (List.perm_middle.trans (List.Perm.cons _ ?_))
            rw [← List.append_assoc]
            exact (List.perm_append_comm).append_right g
          have nd' := p.nodup_iff.mp nd
          refine ⟨xs, ys, h1, g1, h3.length, g3.length, rep_close h1 rfl (.inl ⟨_, _, rfl, rfl, h3.app g3⟩) t (List.nodup_append.mp nd').2.1 (fun c hc => off c (p.mem_iff.mpr (List.mem_append_right _ hc))) dom⟩
        · cases g2
        · cases g2
      · cases h2
      · cases h2
theorem keyIs_kD (x y : Key) (d : D) : keyIsD (.k y) (kD x, d) = decide (x = y) := by
  unfold keyIsD
  rw [toKK_kD]
  simp
theorem any_key {H : Hp} {Z : Addr → Prop} (y : Key) : ∀ {kvs : List (Key × V)} {es : List (D × D)}, RdE H Z (kvs.map eK) es → es.any (keyIsD (.k y)) = kvs.any fun p => decide (p.1 = y)
  | [], _, r => by cases r; rfl
  | (x, v) :: kvs, _, r => by
    cases r with
    | @cons _ _ _ d ds h t =>
      rw [List.any_cons, List.any_cons, any_key y t]
      show (keyIsD (.k y) (kD x, d) || _) = _
      rw [keyIs_kD]
theorem put_map {H : Hp} {Z : Addr → Prop} {y : Key} {z : V} {d : D} (w : Dt.Rd H Z z d) : ∀ {kvs : List (Key × V)} {es : List (D × D)}, RdE H Z (kvs.map eK) es →
    RdE H Z ((kvs.map fun p => if p.1 = y then (p.1, z) else p).map eK) (es.map fun p => if keyIsD (.k y) p then (p.1, d) else p)
  | [], _, r => by cases r; exact .nil
  | (x, v) :: kvs, _, r => by
    cases r with
    | @cons _ _ _ d0 ds h t =>
      have e : keyIsD (.k y) (kD x, d0) = decide (x = y) := keyIs_kD x y d0
      rw [List.map_cons, List.map_cons, List.map_cons]
      show RdE H Z (eK (if x = y then (x, z) else (x, v)) :: _) ((if keyIsD (.k y) (kD x, d0) = true then (kD x, d) else (kD x, d0)) :: _)
      rw [e]
      by_cases q : x = y
      · rw [if_pos q, if_pos (by simpa using q)]
        exact .cons w (put_map w t)
      · rw [if_neg q, if_neg (by simpa using q)]
        exact .cons h (put_map w t)
theorem RdE.snoc {H : Hp} {Z : Addr → Prop} {k : D} {z : V} {d : D} (w : Dt.Rd H Z z d) : ∀ {vs : List (D × V)} {es : List (D × D)}, RdE H Z vs es → RdE H Z (vs ++ [(k, z)]) (es ++ [(k, d)])
  | _, _, .nil => .cons w .nil
  | _, _, .cons h t => .cons h (t.snoc w)
theorem rdE_put {H : Hp} {Z : Addr → Prop} {y : Key} {z : V} {d : D} {kvs : List (Key × V)} {es : List (D × D)} (r : RdE H Z (kvs.map eK) es) (w : Dt.Rd H Z z d) : RdE H Z ((putK kvs y z).map eK) (dPut es (.k y) (kD y) d) := by
  unfold putK dPut
  rw [any_key y r]
  by_cases q : (kvs.any fun p => decide (p.1 = y)) = true
  · rw [if_pos q, if_pos q]
    exact put_map w r
  · rw [if_neg q, if_neg q, List.map_append]
    exact r.snoc w
/-- d[k] = z, k an int or a text -/
theorem rep_dput {H : Hp} {a : Addr} {es : List (D × D)} {rs : List Root} {z : V} {d : D} {y : Key} (h : Rep ((z, d, .F) :: (.ref a, .dict es, .O .F) :: rs) H) (ok : kindOk es (.k y) = true) :
    ∃ kvs, H a = some (.dK kvs) ∧ kvs.length = es.length ∧ Rep ((.ref a, .dict (dPut es (.k y) (kD y) d), .O .F) :: rs) (upd H a (.dK (putK kvs y z))) := by
  obtain ⟨Z, fp, zz, w⟩ := h.head
  obtain ⟨own, nd, off, dom⟩ := zz
  cases own with
  | @cons _ _ _ _ f g w2 t =>
    obtain ⟨a', fs, e, rfl, k⟩ := w2
    cases e
    rcases k with ⟨xs, ds', h1, h2, h3⟩ | ⟨xs, ds', h1, h2, h3⟩ | ⟨xs, ds', n, h1, h2, h3⟩
    · cases h2
    · cases h2
      have r := ownE_F h3
      have hl := h3.length
      rw [List.length_map] at hl
      have nd' : (a :: ([] ++ g)).Nodup := (List.nodup_cons.mpr ⟨fun m => (List.nodup_cons.mp nd).1 (List.mem_append_right _ m), (List.nodup_append.mp (List.nodup_cons.mp nd).2).2.1⟩)
      refine ⟨xs, h1, hl, rep_close h1 rfl (.inr (.inl ⟨_, _, rfl, rfl, rdE_own (rdE_put r w)⟩)) t nd' (fun b hb => off b ?_) dom⟩
      rcases List.mem_cons.mp hb with e | hb
      · subst e; exact List.mem_cons_self ..
      · exact List.mem_cons_of_mem _ (List.mem_append_right _ hb)
    · cases h2
      exfalso
      cases xs with
      | nil => exact n rfl
      | cons p r1 =>
        obtain ⟨ky, vy⟩ := p
        cases h3
        cases ok
/-- a new list, a new dict -/
theorem rep_newL {H : Hp} {D0 : Addr} {rs : List Root} {m : Md} (h : Rep rs H) (hp : H D0 = none) : Rep ((.ref D0, .list [], .O m) :: rs) (upd H D0 (.lst [])) := by
  obtain ⟨Z, fp, z⟩ := h
  exact z.push hp ⟨D0, [], rfl, rfl, .inl ⟨[], [], upd_same, rfl, .nil⟩⟩
theorem rep_newD {H : Hp} {D0 : Addr} {rs : List Root} {m : Md} (h : Rep rs H) (hp : H D0 = none) : Rep ((.ref D0, .dict [], .O m) :: rs) (upd H D0 (.dK [])) := by
  obtain ⟨Z, fp, z⟩ := h
  exact z.push hp ⟨D0, [], rfl, rfl, .inr (.inl ⟨[], [], upd_same, rfl, .nil⟩)⟩
end Dt
end
section
set_option Elab.async false
set_option linter.all false
set_option maxRecDepth 100000
set_option maxHeartbeats 4000000
/-! Comprehensions: the readings by the meaning. -/
namespace Dt
open PySem PySem.Spec PyProof.Rows L2
theorem perm_mid {α : Type} {a : α} {l r : List α} : (l ++ a :: r).Perm (a :: (l ++ r)) := List.perm_middle
theorem RepS.raw {md : List Md} {σ : L2.St} {en : Sl} {ts : List Root} {H : Hp} (h : RepS md σ en ts H) : ∃ rs, SR md σ en rs ∧ Rep (rs ++ ts) H := h
theorem Out.bind_ok {α β : Type} {x : Out α} {f : α → Sl → Out β} {b : β} {en : Sl} (h : x.bind f = .ok b en) : ∃ a en1, x = .ok a en1 ∧ f a en1 = .ok b en := by
  cases x with
  | ok a en1 => exact ⟨a, en1, rfl, h⟩
  | exc c fs σ => cases h
  | bad => cases h
theorem noX_ok {α : Type} {x : Out α} {a : α} {en : Sl} (h : noX x = .ok a en) : x = .ok a en := by
  cases x with
  | ok a en1 => exact h
  | exc c fs σ => cases h
  | bad => cases h
theorem wipe_idem (σ : L2.St) (vs : List Nat) : L2.wipe (L2.wipe σ vs) vs = L2.wipe σ vs := by
  apply List.ext_getElem?
  intro j
  rw [wipe_get, wipe_get, wipe_length]
  by_cases m : j ∈ vs <;> simp [m]
/-- the loop over what J yields, from H1 on -/
def tBody (J : It) (g : TG) (tt : TT) (te : L2.St → Hp → (Hp → Prop) → Prop) (σ : L2.St) (vs : List Nat) (Fin : Hp → Prop) (H1 : Hp) : Prop := ∃ W : Nat → Nat → Hp → Prop, (∃ m, W 0 m H1) ∧ ∀ i m H, W i m H →
  (J.stop i H ∧ Fin H) ∨ (J.go i H ∧ ∃ Nx : Hp → Prop, (∀ H', Nx H' → ∃ m', m' < m ∧ W (i + 1) m' H') ∧ ∀ x H', J.yld i H x H' → g x (L2.wipe σ vs) H' fun σ2 H2 => L2.wipe σ2 vs = L2.wipe σ vs ∧ tt σ2 H2 fun b H3 =>
    if b = true then te σ2 H3 Nx else Nx H3)
section
variable {md : List Md} {W : WX} {own : List Nat} {tg : Tg} {c : Sl → Out Bool} {α : Type} {e : α → Sl → Out α} {dat : α → D} {Dm : Md} {σ : L2.St} {D0 : Addr} {ts tr : List Root} {te : L2.St → Hp → (Hp → Prop) → Prop} {J : It} {items : List D}
theorem body_core (Wk : Walk J items tr) (sub : ∀ j ∈ tgs tg, j ∈ own)
    (hte : ∀ (σ2 : L2.St) (H3 : Hp) (Nx : Hp → Prop) (en4 : Sl) (acc1 acc2 : α) (en2 : Sl), RepS md σ2 en4 ((.ref D0, dat acc1, Dm) :: (tr ++ ts)) H3 → e acc1 en4 = .ok acc2 en2 → (∀ H', RepS md σ2 en2 ((.ref D0, dat acc2, Dm) :: (tr ++ ts)) H' → Nx H') → te σ2 H3 Nx)
    {acc0 accF : α} {en0 enF : Sl} (run : loopG (turnG own tg c e) items acc0 en0 = .ok accF enF) {H1 : Hp} (R0 : RepS md σ en0 ((.ref D0, dat acc0, Dm) :: (tr ++ ts)) H1) {Fin : Hp → Prop}
    (fin : ∀ H, RepS md σ (wipeD enF own) ((.ref D0, dat accF, Dm) :: (tr ++ ts)) H → Fin H) : tBody J (gD md tg) (tDT md W c) te σ own Fin H1 := by
  refine ⟨fun i m H => m = items.length - i ∧ i ≤ items.length ∧ ∃ acc en, loopG (turnG own tg c e) (items.drop i) acc en = .ok accF enF ∧ RepS md (L2.wipe σ own) (wipeD en own) ((.ref D0, dat acc, Dm) :: (tr ++ ts)) H,
    ⟨_, rfl, Nat.zero_le _, acc0, en0, run, R0.wipes own⟩, ?_⟩
  rintro i m H ⟨rfl, hi, acc, en, run, R⟩
  obtain ⟨rs, S, raw⟩ := R.raw
  have raw' : Rep (tr ++ (rs ++ (.ref D0, dat acc, Dm) :: ts)) H := by
    refine raw.perm ?_
    refine List.Perm.trans ?_ (List.perm_append_comm_assoc ..)
    refine List.Perm.append_left rs ?_
    exact perm_mid.symm
  obtain ⟨w1, w2⟩ := Wk i H _ raw'
  by_cases hl : i < items.length
  · right
    have e1 : items.drop i = items[i] :: items.drop (i + 1) := List.drop_eq_getElem_cons hl
    rw [e1] at run
    obtain ⟨acc2, en2, t1, t2⟩ := Out.bind_ok run
    obtain ⟨go, y⟩ := w2 items[i] (List.getElem?_eq_getElem hl)
    refine ⟨go, fun H' => RepS md (L2.wipe σ own) (wipeD en2 own) ((.ref D0, dat acc2, Dm) :: (tr ++ ts)) H', fun H' nx => ⟨items.length - (i + 1), by omega, rfl, hl, acc2, en2, t2, nx⟩, fun x H' hy => ?_⟩
    have R1 : RepS md (L2.wipe σ own) (wipeD en own) ((x, items[i], .F) :: ((.ref D0, dat acc, Dm) :: (tr ++ ts))) H' := by
      refine ⟨rs, S, (y x H' hy).perm ?_⟩
      refine List.Perm.trans (List.Perm.cons _ ?_) perm_mid.symm
      refine List.Perm.trans (List.perm_append_comm_assoc ..) ?_
      refine List.Perm.append_left rs ?_
      exact perm_mid
    unfold turnG at t1
    split at t1
    · rename_i en3 ea
      obtain ⟨b, en4, c1, c2⟩ := Out.bind_ok t1
      have c1 := noX_ok c1
      refine ⟨wipeD en own, _, items[i], R1, en3, ea, fun σ2 R2 ag => ?_⟩
      have wq : L2.wipe σ2 own = L2.wipe σ own := by rw [(ag.mono sub).wipe, wipe_idem]
      refine ⟨wq, en3, _, R2, ?_⟩
      rw [c1]
      intro H3 R3
      cases b with
      | false =>
        simp only [Bool.false_eq_true, if_false] at c2 ⊢
        cases c2
        have := R3.wipes own
        rw [wq] at this
        exact this
      | true =>
        simp only [if_true] at c2 ⊢
        refine hte σ2 H3 _ en4 acc acc2 en2 R3 (noX_ok c2) fun H4 R4 => ?_
        have := R4.wipes own
        rw [wq] at this
        exact this
    · cases t1
  · left
    have hi2 : items.length ≤ i := Nat.le_of_not_lt hl
    rw [List.drop_eq_nil_of_le hi2] at run
    cases run
    exact ⟨w1 hi2, fin H R.unwipe⟩
/-- an item's reading, appended -/
theorem te_app {m m' : Md} {ev : Sl → Out D} (hm : m' = m ∨ m = .F) {rest : List Root} (σ2 : L2.St) (H3 : Hp) (Nx : Hp → Prop) (en4 : Sl) (acc1 acc2 : List D) (en2 : Sl)
    (R : RepS md σ2 en4 ((.ref D0, .list acc1, .O m) :: rest) H3) (h : app1 ev acc1 en4 = .ok acc2 en2) (q : ∀ H', RepS md σ2 en2 ((.ref D0, .list acc2, .O m) :: rest) H' → Nx H') :
    tD md m' W ev σ2 H3 fun y H4 => ∃ acc, H4 D0 = some (.lst acc) ∧ acc.length < sizeLine ∧ Nx (upd H4 D0 (.lst (acc ++ [y]))) := by
  obtain ⟨d, en5, h1, h2⟩ := Out.bind_ok h
  split at h2
  case isFalse => cases h2
  rename_i hz
  cases h2
  refine ⟨en4, _, R, ?_⟩
  rw [h1]
  intro y H4 R4
  have R5 : RepS md σ2 en2 ((y, d, m) :: (.ref D0, .list acc1, .O m) :: rest) H4 := by
    rcases hm with hm | hm
    · rw [← hm]; rw [hm] at R4 ⊢; exact R4
    · rw [hm]; rw [hm] at R4; exact R4.freeze
  obtain ⟨rs, S, raw⟩ := R5.raw
  have raw2 : Rep ((y, d, m) :: (.ref D0, .list acc1, .O m) :: (rs ++ rest)) H4 := raw.perm (perm_mid.trans (List.Perm.cons _ perm_mid))
  obtain ⟨xs, e1, e2, R6⟩ := rep_append raw2
  exact ⟨xs, e1, by rw [e2]; exact hz, q _ ⟨rs, S, R6.perm perm_mid.symm⟩⟩
/-- a key and a value, put -/
theorem te_put {mk mv : Md} {ek ev : Sl → Out D} {rest : List Root} (σ2 : L2.St) (H3 : Hp) (Nx : Hp → Prop) (en4 : Sl) (acc1 acc2 : List (D × D)) (en2 : Sl) (hk : flatM mk = true)
    (R : RepS md σ2 en4 ((.ref D0, .dict acc1, .O .F) :: rest) H3) (h : put1 ek ev acc1 en4 = .ok acc2 en2) (q : ∀ H', RepS md σ2 en2 ((.ref D0, .dict acc2, .O .F) :: rest) H' → Nx H') :
    tD md mk W ek σ2 H3 fun y H4 => tD md mv W ev σ2 H4 fun z H5 => ∃ kvs k, y = kV k ∧ H5 D0 = some (.dK kvs) ∧ kvs.length < sizeLine ∧ Nx (upd H5 D0 (.dK (putK kvs k z))) := by
  obtain ⟨kd, en5, h1, h2⟩ := Out.bind_ok h
  obtain ⟨d, en6, h3, h4⟩ := Out.bind_ok h2
  split at h4
  case h_2 => cases h4
  rename_i x0 ek'
  split at h4
  case isFalse => cases h4
  rename_i hz
  cases h4
  refine ⟨en4, _, R, ?_⟩
  rw [h1]
  intro y H4 R4
  have hv : y = kV x0 ∧ kd = kD x0 := by
    obtain ⟨rs, S, Z, fp, z⟩ := R4
    obtain ⟨f, w, _⟩ := z.own.get (List.mem_append_right _ (List.mem_cons_self ..))
    rcases toKK_v (w.vw hk) ek' with ⟨x, h1, h2, h3⟩ | ⟨ks, a, h1, _⟩
    · cases h1; exact ⟨h2, h3⟩
    · cases h1
  obtain ⟨rfl, rfl⟩ := hv
  refine ⟨en5, _, R4.tail, ?_⟩
  rw [h3]
  intro z H5 R5
  obtain ⟨rs, S, raw⟩ := (R5.freeze).raw
  have raw2 : Rep ((z, d, .F) :: (.ref D0, .dict acc1, .O .F) :: (rs ++ rest)) H5 := raw.perm (perm_mid.trans (List.Perm.cons _ perm_mid))
  obtain ⟨kvs, e1, e2, R6⟩ := rep_dput raw2 hz.2
  exact ⟨kvs, x0, rfl, e1, by rw [e2]; exact hz.1, q _ ⟨rs, S, R6.perm perm_mid.symm⟩⟩
end
/-- what an iterable means, and behind it -/
theorem iD_bind {md : List Md} {W : WX} {σ : L2.St} {H : Hp} {β : Type} {m : Sl → Out (List D)} {F : List D → Sl → Out β} {k : β → Sl → Prop} {R : It → Hp → Prop} {en : Sl} {ts : List Root} (r : RepS md σ en ts H) (P : Post md W σ ts ((m en).bind F) k)
    (q : ∀ (J : It) (H' : Hp) (tr : List Root) (items : List D) (en' : Sl), RepS md σ en' (tr ++ ts) H' → Walk J items tr → Post md W σ ts (F items en') k → R J H') : iD md W m σ H R :=
  ⟨en, ts, r, P.bind.mono fun items en' _ P2 J H' tr R' w => q J H' tr items en' R' w P2⟩
theorem RepS.drop1 {md : List Md} {σ : L2.St} {en : Sl} {r : Root} {tr ts : List Root} {H : Hp} (h : RepS md σ en (r :: (tr ++ ts)) H) : RepS md σ en (r :: ts) H := by
  have p : (r :: (tr ++ ts)).Perm (tr ++ (r :: ts)) := perm_mid.symm
  exact (h.permT p).drop
section
variable {md : List Md} {W : WX} {U : Ev} {own own1 : List Nat} {tg tg1 : Tg} {ik ik1 : Ik} {it it1 c c1 k e : E} {m m' : Md}
abbrev itM (U : Ev) (ik : Ik) (it : E) : Sl → Out (List D) := fun en => (evL U it en).bind fun ds σ => items1 ik ds σ
theorem runG_ok {α : Type} {dat : α → D} {f : D → α → Sl → Out α} {acc : α} {items : List D} {en : Sl} {σ : L2.St} {ts : List Root} {K : D → Sl → Prop} (P : Post md W σ ts (runG own dat f acc items en) K) : ∃ accF enF, loopG f items acc en = .ok accF enF ∧ K (dat accF) (wipeD enF own) := by
  unfold runG at P
  cases h : noX (loopG f items acc en) with
  | ok accF enF =>
    rw [h] at P
    exact ⟨accF, enF, noX_ok h, P⟩
  | exc c fs σ =>
    rw [h] at P
    exact P.elim
  | bad =>
    rw [h] at P
    exact P.elim
theorem lc_imp (hm : m' = m ∨ m = .F) (sub : ∀ j ∈ tgs tg, j ∈ own) (σ : L2.St) (H : Hp) (Q : VK) (h : tD md (.O m) W (evE U (.lc own tg ik it c m e)) σ H Q) :
    tLc (iD md W (itM U ik it)) (gD md tg) (tDT md W (evT U c)) (tD md m' W (evE U e)) own σ H Q := by
  obtain ⟨en, ts, R, P⟩ := h
  rw [show evE U (.lc own tg ik it c m e) en = (itM U ik it en).bind fun items σ => runG own .list (turnG own tg (evT U c) (app1 (evE U e))) [] items σ by rw [evE]] at P
  refine iD_bind R P fun J H' tr items en' R' w P2 D0 hD => ?_
  obtain ⟨accF, enF, run, K⟩ := runG_ok P2
  have R0 : RepS md σ en' ((.ref D0, .list [], .O m) :: (tr ++ ts)) (upd H' D0 (.lst [])) := by
    obtain ⟨rs, S, raw⟩ := R'.raw
    exact ⟨rs, S, (rep_newL raw hD).perm perm_mid.symm⟩
  exact body_core (dat := .list) (W := W) w sub (te_app hm) run R0 fun H'' R'' => K _ _ R''.drop1
theorem lc2_imp (hm : m' = m ∨ m = .F) (sub : ∀ j ∈ tgs tg, j ∈ own) (sub1 : ∀ j ∈ tgs tg1, j ∈ own1) (σ : L2.St) (H : Hp) (Q : VK) (h : tD md (.O m) W (evE U (.lc2 own tg ik it c own1 tg1 ik1 it1 c1 m e)) σ H Q) :
    tLc2 (iD md W (itM U ik it)) (gD md tg) (tDT md W (evT U c)) (iD md W (itM U ik1 it1)) (gD md tg1) (tDT md W (evT U c1)) (tD md m' W (evE U e)) own own1 σ H Q := by
  obtain ⟨en, ts, R, P⟩ := h
  rw [show evE U (.lc2 own tg ik it c own1 tg1 ik1 it1 c1 m e) en = (itM U ik it en).bind fun items σ => runG own .list (turnG own tg (evT U c) fun acc σ => (itM U ik1 it1 σ).bind fun items1 σ =>
        (loopG (turnG own1 tg1 (evT U c1) (app1 (evE U e))) items1 acc σ).bind fun acc σ => .ok acc (wipeD σ own1)) [] items σ by rw [evE]] at P
  refine iD_bind R P fun J H' tr items en' R' w P2 D0 hD => ?_
  obtain ⟨accF, enF, run, K⟩ := runG_ok P2
  have R0 : RepS md σ en' ((.ref D0, .list [], .O m) :: (tr ++ ts)) (upd H' D0 (.lst [])) := by
    obtain ⟨rs, S, raw⟩ := R'.raw
    exact ⟨rs, S, (rep_newL raw hD).perm perm_mid.symm⟩
  refine body_core (dat := .list) (W := W) (te := fun σ2 H3 Nx => iD md W (itM U ik1 it1) σ2 H3 fun J1 H4 => tBody J1 (gD md tg1) (tDT md W (evT U c1)) (fun σ3 H6 Nx1 => tD md m' W (evE U e) σ3 H6 fun y H7 => ∃ acc, H7 D0 = some (.lst acc) ∧ acc.length < sizeLine ∧ Nx1 (upd H7 D0 (.lst (acc ++ [y])))) σ2 own1 Nx H4)
    w sub (fun σ2 H3 Nx en4 acc1 acc2 en2 R3 h q => ?_) run R0 fun H'' R'' => K _ _ R''.drop1
  obtain ⟨its, en5, h1, h2⟩ := Out.bind_ok h
  obtain ⟨acc3, en6, h3, h4⟩ := Out.bind_ok h2
  cases h4
  refine ⟨en4, _, R3, ?_⟩
  rw [show itM U ik1 it1 en4 = .ok its en5 from h1]
  intro J1 H4 tr1 R4 w1
  have R5 : RepS md σ2 en5 ((.ref D0, .list acc1, .O m) :: (tr1 ++ (tr ++ ts))) H4 := R4.permT perm_mid
  exact body_core (dat := .list) (W := W) w1 sub1 (te_app hm) h3 R5 fun H'' R'' => q _ R''.drop1
theorem dc_imp {mk mv : Md} (hk : flatM mk = true) (sub : ∀ j ∈ tgs tg, j ∈ own) (σ : L2.St) (H : Hp) (Q : VK) (h : tD md (.O .F) W (evE U (.dc own tg ik it c k e)) σ H Q) :
    tDc (iD md W (itM U ik it)) (gD md tg) (tDT md W (evT U c)) (tD md mk W (evE U k)) (tD md mv W (evE U e)) own σ H Q := by
  obtain ⟨en, ts, R, P⟩ := h
  rw [show evE U (.dc own tg ik it c k e) en = (itM U ik it en).bind fun items σ => runG own .dict (turnG own tg (evT U c) (put1 (evE U k) (evE U e))) [] items σ by rw [evE]] at P
  refine iD_bind R P fun J H' tr items en' R' w P2 D0 hD => ?_
  obtain ⟨accF, enF, run, K⟩ := runG_ok P2
  have R0 : RepS md σ en' ((.ref D0, .dict [], .O .F) :: (tr ++ ts)) (upd H' D0 (.dK [])) := by
    obtain ⟨rs, S, raw⟩ := R'.raw
    exact ⟨rs, S, (rep_newD raw hD).perm perm_mid.symm⟩
  exact body_core (dat := .dict) (W := W) w sub (fun σ2 H3 Nx en4 acc1 acc2 en2 R3 h q => te_put σ2 H3 Nx en4 acc1 acc2 en2 hk R3 h q) run R0 fun H'' R'' => K _ _ R''.drop1
end
end Dt
end
section
set_option Elab.async false
set_option linter.all false
set_option maxRecDepth 100000
set_option maxHeartbeats 4000000
/-! Operands that are kept; displays; calls; methods. -/
namespace Dt
open PySem PySem.Spec PyProof.Rows L2
def noPk : E → Bool
  | .cons a r => !isPk a && noPk r
  | _ => true
def mRoots (m : Md) (vs : List V) (ds : List D) : List Root := (vs.zip ds).map fun p => (p.1, p.2, m)
theorem fRoots_m (vs : List V) (ds : List D) : fRoots vs ds = mRoots .F vs ds := rfl
def fits (m : Md) (ms : List Md) : Bool := decide (m = .F) || ms.all fun x => decide (x = m)
theorem RepS.toM {md : List Md} {σ : L2.St} {en : Sl} {H : Hp} {m : Md} : ∀ {as : E} {vs : List V} {ds : List D} {ms : List Md} {tr ts : List Root}, Ops md σ en as vs ds ms tr → noPk as = true → (m = .F ∨ ∀ x ∈ ms, x = m) → RepS md σ en (tr ++ ts) H → RepS md σ en (mRoots m vs ds ++ ts) H := by
  intro as vs ds ms tr ts o
  induction o generalizing ts with
  | nil => intro _ _ h; exact h
  | pk _ _ _ _ _ => intro n; cases n
  | lnt _ _ _ _ _ => intro n; cases n
  | @tmp a r v d m0 vs ds ms tr hn o ih =>
    intro n f h
    have h1 : RepS md σ en ((v, d, m) :: (tr ++ ts)) H := by
      rcases f with f | f
      · subst f; exact h.freeze
      · have := f m0 (List.mem_cons_self ..)
        subst this
        exact h
    have n2 : noPk r = true := (Bool.and_eq_true_iff.mp (show (!isPk a && noPk r) = true from n)).2
    have h2 := ih (ts := (v, d, m) :: ts) n2 (f.imp id fun f x hx => f x (List.mem_cons_of_mem _ hx)) (h1.permT perm_mid.symm)
    exact h2.permT perm_mid
theorem ops_len {md : List Md} {σ : L2.St} {en : Sl} {as : E} {vs : List V} {ds : List D} {ms : List Md} {tr : List Root} (o : Ops md σ en as vs ds ms tr) : vs.length = ds.length := by
  induction o with
  | nil => rfl
  | pk _ _ _ _ ih => exact congrArg (· + 1) ih
  | lnt _ _ _ _ ih => exact congrArg (· + 1) ih
  | tmp _ _ ih => exact congrArg (· + 1) ih
theorem own_split {H : Hp} {Z : Addr → Prop} {m : Md} : ∀ {vs : List V} {ds : List D} {rs : List Root} {fp : List Addr}, vs.length = ds.length → OwnR H Z (mRoots m vs ds ++ rs) fp → ∃ f g, OwnA (Own H Z m) vs ds f ∧ OwnR H Z rs g ∧ fp = f ++ g
  | [], [], rs, fp, _, h => ⟨[], fp, .nil, h, rfl⟩
  | [], _ :: _, _, _, e, _ => by cases e
  | _ :: _, [], _, _, e, _ => by cases e
  | v :: vs, d :: ds, rs, _, e, h => by
    cases h with
    | @cons _ _ _ _ f0 g0 w t =>
      obtain ⟨f, g, h1, h2, h3⟩ := own_split (by simpa using e) t
      exact ⟨f0 ++ f, g, .cons w h1, h2, by rw [h3, List.append_assoc]⟩
theorem rep_mkL {H : Hp} {m : Md} {vs : List V} {ds : List D} {rs : List Root} {p : Addr} (hl : vs.length = ds.length) (h : Rep (mRoots m vs ds ++ rs) H) (hp : H p = none) : Rep ((.ref p, .list ds, .O m) :: rs) (upd H p (.lst vs)) := by
  obtain ⟨Z, fp, z, nd, off, dom⟩ := h
  have at1 := z.at
  obtain ⟨f, g, k, t, rfl⟩ := own_split hl z
  have np : ∀ b ∈ f ++ g, b ≠ p := fun b hb e => by
    obtain ⟨o, h1, _⟩ := at1 b hb
    rw [e, hp] at h1
    cases h1
  have s : ∀ b ∈ f ++ g, upd H p (.lst vs) b = H b := fun b hb => upd_ne (np b hb)
  have x : Ext Z H (upd H p (.lst vs)) := ext_new hp
  refine ⟨Z, (p :: f) ++ g, .cons ⟨p, f, rfl, rfl, .inl ⟨vs, ds, upd_same, rfl, k.imp fun v d f' q w => q.mono x (fun _ z => z) fun b hb => s b (List.mem_append_left _ (w b hb))⟩⟩ (t.mono x (fun _ z => z) fun b hb => s b (List.mem_append_right _ hb)), ?_, fun b hb => ?_, fun b hb => ?_⟩
  · exact List.nodup_cons.mpr ⟨fun q => np p q rfl, nd⟩
  · rcases List.mem_cons.mp hb with e | hb
    · subst e; exact fun q => dom b q hp
    · exact off b hb
  · by_cases e : b = p
    · subst e; rw [upd_same]; exact fun q => nomatch q
    · rw [upd_ne e]; exact dom b hb
theorem own_rdA {H : Hp} {Z : Addr → Prop} {vs : List V} {ds : List D} {f : List Addr} (h : OwnA (Own H Z .F) vs ds f) : RdA H Z vs ds := ownA_F h
theorem rep_rdA {H : Hp} {vs : List V} {ds : List D} {rs : List Root} (hl : vs.length = ds.length) (h : Rep (mRoots .F vs ds ++ rs) H) : ∃ Z fp, RepZ rs H Z fp ∧ RdA H Z vs ds := by
  obtain ⟨Z, fp, z, nd, off, dom⟩ := h
  obtain ⟨f, g, k, t, rfl⟩ := own_split hl z
  exact ⟨Z, g, ⟨t, (List.nodup_append.mp nd).2.1, fun a m => off a (List.mem_append_right _ m), dom⟩, ownA_F k⟩
theorem rep_mkT {H : Hp} {vs : List V} {ds : List D} {rs : List Root} {p : Addr} (hl : vs.length = ds.length) (h : Rep (mRoots .F vs ds ++ rs) H) (hp : H p = none) : Rep ((.ref p, .tuple ds, .F) :: rs) (upd H p (.tup vs)) := by
  obtain ⟨Z, fp, z, r⟩ := rep_rdA hl h
  exact z.pushT hp r
theorem RepS.under {md : List Md} {σ : L2.St} {en : Sl} {ts l : List Root} {H H' : Hp} {r : Root} (h : RepS md σ en (l ++ ts) H) (q : ∀ rs, Rep (l ++ rs) H → Rep (r :: rs) H') : RepS md σ en (r :: ts) H' := by
  obtain ⟨rs, S, raw⟩ := h
  exact ⟨rs, S, (q (rs ++ ts) (raw.perm (List.perm_append_comm_assoc ..))).perm perm_mid.symm⟩
section
variable {C : Ck} {U : Ev} {X : Cx} {md : List Md} {W : WX} {as : E} {ms : List Md} {tes : List TE}
/-- (a, b, ..) -/
theorem tup_imp (n : noPk as = true) (imp : ∀ σ H Q, tDL md W (evL U as) as ms σ H Q → chain tes σ H Q) (σ : L2.St) (H : Hp) (Q : VK) (h : tD md .F W (evE U (.tup as)) σ H Q) : tTup (chain tes) σ H Q := by
  obtain ⟨en, ts, R, P⟩ := h
  rw [show evE U (.tup as) en = (evL U as en).bind fun ds σ => if ds.length ≤ sizeLine then .ok (.tuple ds) σ else .bad by rw [evE]] at P
  refine imp σ H _ ⟨en, ts, R, P.bind.mono fun ds en' _ P2 vs H' tr R' O => ?_⟩
  have hl := ops_len O
  by_cases z : ds.length ≤ sizeLine
  · rw [if_pos z] at P2
    refine ⟨by rw [hl]; exact z, fun p hp => P2 _ _ ?_⟩
    exact (R'.toM O n (.inl rfl)).under fun rs r => rep_mkT hl r hp
  · rw [if_neg z] at P2
    exact P2.elim
theorem lst_imp {m : Md} (n : noPk as = true) (f : fits m ms = true) (imp : ∀ σ H Q, tDL md W (evL U as) as ms σ H Q → chain tes σ H Q) (σ : L2.St) (H : Hp) (Q : VK) (h : tD md (.O m) W (evE U (.lst m as)) σ H Q) : tLst (chain tes) σ H Q := by
  obtain ⟨en, ts, R, P⟩ := h
  rw [show evE U (.lst m as) en = (evL U as en).bind fun ds σ => if ds.length ≤ sizeLine then .ok (.list ds) σ else .bad by rw [evE]] at P
  refine imp σ H _ ⟨en, ts, R, P.bind.mono fun ds en' _ P2 vs H' tr R' O => ?_⟩
  have hl := ops_len O
  have f' : m = .F ∨ ∀ x ∈ ms, x = m := by
    unfold fits at f
    simp only [Bool.or_eq_true, decide_eq_true_eq, List.all_eq_true] at f
    exact f
  by_cases z : ds.length ≤ sizeLine
  · rw [if_pos z] at P2
    refine ⟨by rw [hl]; exact z, fun p hp => P2 _ _ ?_⟩
    exact (R'.toM O n f').under fun rs r => rep_mkL hl r hp
  · rw [if_neg z] at P2
    exact P2.elim
/-- an iterable's operands -/
theorem it_imp {ik : Ik} {r : List V → Hp → (It → Hp → Prop) → Prop} (hr : ItD ik r) (n : noPk as = true) (imp : ∀ σ H Q, tDL md W (evL U as) as ms σ H Q → chain tes σ H Q) (σ : L2.St) (H : Hp) (R : It → Hp → Prop) (h : iD md W (itM U ik as) σ H R) :
    chain tes σ H fun vs H' => r vs H' R := by
  obtain ⟨en, ts, R0, P⟩ := h
  refine imp σ H _ ⟨en, ts, R0, P.bind.mono fun ds en' _ P2 vs H' tr R' O => ?_⟩
  have hl := ops_len O
  have R2 := R'.toM (m := .F) O n (.inl rfl)
  obtain ⟨items, e, q⟩ := P2.ofO
  obtain ⟨rs, S, raw⟩ := R2
  obtain ⟨Z, fp, z, rd⟩ := rep_rdA hl (raw.perm (List.perm_append_comm_assoc ..))
  exact hr H' Z vs ds items R rd e fun J w => q J H' _ ⟨rs, S, raw⟩ w
/-! ### {'a': .., ..} -/
theorem pairs_of_chain {es : List Expr} (T : PEs X es tes) : ∀ {ks : List Str} {σ : L2.St} {H : Hp} {K : List (V × V) → Hp → Prop}, ks.length = tes.length → (chain tes σ H fun vs H' => K ((ks.map V.str).zip vs) H') → tPairs ((ks.map fun k => tC (.str k)).zip tes) σ H K := by
  induction T with
  | nil =>
    intro ks σ H K e h
    cases ks with
    | nil => exact h
    | cons _ _ => cases e
  | cons n m h t ih =>
    intro ks σ H K e w
    cases ks with
    | nil => cases e
    | cons k ks => exact m σ H _ _ (fun v H1 w1 => ih (by simpa using e) w1) w
def strKeys : List Str → List (Option Expr) → Bool
  | [], [] => true
  | k :: ks, some (.Constant (.str x) _ _) :: r => decide (k = x) && strKeys ks r
  | _, _ => false
theorem pps_of {es : List Expr} {pos : Pos} (T : PEs X es tes) : ∀ {ks : List Str} {keys : List (Option Expr)}, strKeys ks keys = true → keys.length = es.length → PPs X pos keys es ((ks.map fun k => tC (.str k)).zip tes) ∧ keys.all (·.isSome) = true ∧ ks.length = tes.length := by
  induction T with
  | nil =>
    intro ks keys h e
    cases keys with
    | cons _ _ => cases e
    | nil =>
      cases ks with
      | nil => exact ⟨pps_nil, rfl, rfl⟩
      | cons _ _ => cases h
  | cons n m h t ih =>
    intro ks keys hk e
    cases keys with
    | nil => cases e
    | cons k0 keys =>
      cases ks with
      | nil => cases hk
      | cons k ks =>
        unfold strKeys at hk
        split at hk
        · rename_i q _
          cases q
        · rename_i e1 e2
          cases e1
          cases e2
          obtain ⟨h1, h2⟩ := Bool.and_eq_true_iff.mp hk
          have h1 := of_decide_eq_true h1
          subst h1
          obtain ⟨q1, q2, q3⟩ := ih h2 (by simpa using e)
          exact ⟨pps_cons pe_str h q1, by simpa using q2, by simpa using q3⟩
        · cases hk
theorem merge_nodup : ∀ (more acc : List (Key × V)), (acc ++ more).map (·.1) |>.Nodup → mergeK acc more = acc ++ more
  | [], acc, _ => by simp [mergeK]
  | p :: r, acc, h => by
    have h' : ((acc ++ [p]) ++ r).map (·.1) |>.Nodup := by simpa using h
    have hp : (acc.any fun kv => decide (kv.1 = p.1)) = false := by
      rw [List.any_eq_false]
      intro x hx e
      have e := of_decide_eq_true e
      rw [List.map_append] at h
      have := (List.nodup_append.mp h).2.2 x.1 (List.mem_map.mpr ⟨x, hx, rfl⟩) p.1 (by simp)
      exact this e
    have e : putK acc p.1 p.2 = acc ++ [p] := by
      unfold putK
      rw [hp]
      simp
    show mergeK (putK acc p.1 p.2) r = acc ++ p :: r
    rw [e, merge_nodup r (acc ++ [p]) h']
    simp
theorem rdE_zip {H : Hp} {Z : Addr → Prop} : ∀ {ks : List Str} {vs : List V} {ds : List D}, RdA H Z vs ds → RdE H Z (((ks.map Sum.inr).zip vs : List (Key × V)).map eK) ((ks.map PyData.str).zip ds)
  | [], _, _, _ => .nil
  | _ :: _, _, _, .nil => .nil
  | k :: ks, _, _, .cons h t => .cons h (rdE_zip t)
theorem rep_fill {H : Hp} {p : Addr} {vs : List V} {ds : List D} {rest : List Root} {ks : List Str} (hl : vs.length = ds.length) (h : Rep ((.ref p, .dict [], .O .F) :: (mRoots .F vs ds ++ rest)) H) :
    H p = some (.dK []) ∧ Rep ((.ref p, .dict ((ks.map PyData.str).zip ds), .O .F) :: rest) (upd H p (.dK ((ks.map Sum.inr).zip vs))) := by
  obtain ⟨Z, o, fs, g, O⟩ := rep_open h
  obtain ⟨f, g', k, t, rfl⟩ := own_split hl O.rest
  have r := ownA_F k
  have e : o = .dK [] := by
    rcases O.kids with ⟨xs, ds', rfl, e, q⟩ | ⟨xs, ds', rfl, e, q⟩ | ⟨xs, ds', n, rfl, e, q⟩
    · cases e
    · cases e
      cases xs with
      | nil => rfl
      | cons x xs => cases q
    · cases e
      cases xs with
      | nil => exact (n rfl).elim
      | cons x xs => cases q
  subst e
  have nd := O.nd
  have off := O.off
  have sub : ∀ b ∈ p :: ([] ++ g'), b ∈ p :: (fs ++ (f ++ g')) := fun b hb => by
    rcases List.mem_cons.mp hb with e | hb
    · subst e; exact List.mem_cons_self ..
    · exact List.mem_cons_of_mem _ (List.mem_append_right _ (List.mem_append_right _ hb))
  have n1 := List.nodup_cons.mp nd
  have nd' : (p :: ([] ++ g')).Nodup := List.nodup_cons.mpr ⟨fun m => n1.1 (List.mem_append_right _ (List.mem_append_right _ m)), (List.nodup_append.mp (List.nodup_append.mp n1.2).2.1).2.1⟩
  exact ⟨O.at1, rep_close O.at1 rfl (.inr (.inl ⟨_, _, rfl, rfl, rdE_own (rdE_zip r)⟩)) t nd' (fun b hb => off b (sub b hb)) O.dom⟩
theorem dsp_imp {ks : List Str} {es : List Expr} (T : PEs X es tes) (n : noPk as = true) (nd : ks.Nodup) (h15 : ks.length ≤ 15) (hl0 : ks.length = tes.length) (imp : ∀ σ H Q, tDL md W (evL U as) as ms σ H Q → chain tes σ H Q) (σ : L2.St) (H : Hp) (Q : VK)
    (h : tD md (.O .F) W (evE U (.dsp ks as)) σ H Q) : tDisp ((ks.map fun k => tC (.str k)).zip tes) σ H Q := by
  obtain ⟨en, ts, R, P⟩ := h
  rw [show evE U (.dsp ks as) en = (evL U as en).bind fun ds σ => if ks.length = ds.length then .ok (.dict ((ks.map .str).zip ds)) σ else .bad by rw [evE]] at P
  intro p hp
  have R0 : RepS md σ en ((.ref p, .dict [], .O .F) :: ts) (upd H p (.dK [])) := by
    obtain ⟨rs, S, raw⟩ := R
    exact ⟨rs, S, (rep_newD raw hp).perm perm_mid.symm⟩
  refine pairs_of_chain T hl0 (imp σ _ _ ⟨en, (.ref p, .dict [], .O .F) :: ts, R0, ?_⟩)
  refine (Post.more [(.ref p, .dict [], .O .F)] P.bind).mono fun ds en' _ P2 vs H' tr R' O => ?_
  have hl := ops_len O
  by_cases z : ks.length = ds.length
  case neg => rw [if_neg z] at P2; exact P2.elim
  rw [if_pos z] at P2
  obtain ⟨rs, S, raw⟩ := R'.toM (m := .F) O n (.inl rfl)
  have raw2 : Rep ((.ref p, .dict [], .O .F) :: (mRoots .F vs ds ++ (rs ++ ts))) H' := by
    refine raw.perm ?_
    refine List.Perm.trans (List.perm_append_comm_assoc ..) ?_
    refine List.Perm.trans (List.Perm.append_left _ perm_mid) ?_
    exact perm_mid
  obtain ⟨h1, h2⟩ := rep_fill (ks := ks) hl raw2
  have hlen : ((ks.map Sum.inr).zip vs : List (Key × V)).length = ks.length := by
    rw [List.length_zip, List.length_map]
    omega
  refine ⟨h1, (ks.map Sum.inr).zip vs, ?_, by rw [hlen]; exact h15, ?_⟩
  · rw [show (fun kv : Key × V => (kV kv.1, kv.2)) = Prod.map kV id from rfl, ← List.zip_map_left, List.map_map]
    rfl
  · have e : mergeK [] ((ks.map Sum.inr).zip vs) = (ks.map Sum.inr).zip vs := by
      rw [merge_nodup]
      · rfl
      · rw [List.nil_append, List.map_fst_zip (by rw [List.length_map]; omega)]
        exact List.pairwise_map.mpr (List.Pairwise.imp (fun h e => h (Sum.inr.inj e)) nd)
    rw [e]
    exact P2 _ _ ⟨rs, S, h2.perm perm_mid.symm⟩
end
end Dt
end
section
set_option Elab.async false
set_option linter.all false
set_option maxRecDepth 100000
set_option maxHeartbeats 4000000
/-! Calls of the program's own defs; methods. -/
namespace Dt
open PySem PySem.Spec PyProof.Rows L2
def argOk (a : E) (o : Option Md) (m : Md) : Bool := match a, o with
  | .lnt _, some m0 => decide (m = m0)
  | .lnt _, none => false
  | .pk _, _ => false
  | _, none => true
  | _, some _ => false
def argsOk : E → List (Option Md) → List Md → Bool
  | .nil, [], [] => true
  | .cons a r, o :: l, m :: ms => argOk a o m && argsOk r l ms
  | _, _, _ => false
def trF (tr : List Root) : List Root := tr.map fun r => (r.1, r.2.1, .F)
theorem RepS.toF {md : List Md} {σ : L2.St} {en : Sl} {H : Hp} : ∀ {tr ts : List Root}, RepS md σ en (tr ++ ts) H → RepS md σ en (trF tr ++ ts) H
  | [], _, h => h
  | (v, d, m) :: tr, ts, h => by
    have h1 : RepS md σ en ((v, d, .F) :: (tr ++ ts)) H := h.freeze
    have h2 := RepS.toF (tr := tr) (ts := (v, d, .F) :: ts) (h1.permT perm_mid.symm)
    exact h2.permT perm_mid
theorem lnts_tmp {a r : E} (h : isPk a = false) : lnts (.cons a r) = lnts r := by
  cases a <;> first | rfl | cases h
section
variable {md : List Md} {σ : L2.St} {en : Sl}
theorem args_A {as : E} {vs : List V} {ds : List D} {ms : List Md} {tr : List Root} (o : Ops md σ en as vs ds ms tr) : ∀ {lm : List (Option Md)}, lnts as = [] → argsOk as lm ms = true → argR lm vs ds = trF tr ∧ ∀ ls, lentR lm vs ls = [] := by
  induction o with
  | nil =>
    intro lm _ h
    cases lm with
    | nil => exact ⟨rfl, fun ls => rfl⟩
    | cons _ _ => cases h
  | pk _ _ _ _ _ =>
    intro lm _ h
    cases lm with
    | nil => cases h
    | cons o l => exact nomatch (Bool.and_eq_true_iff.mp h).1
  | lnt _ _ _ _ _ => intro lm e _; cases e
  | @tmp a r v d m vs ds ms tr hn o ih =>
    intro lm e h
    cases lm with
    | nil => cases h
    | cons o l =>
      obtain ⟨h1, h2⟩ := Bool.and_eq_true_iff.mp h
      rw [lnts_tmp hn] at e
      obtain ⟨q1, q2⟩ := ih e h2
      have : o = none := by
        cases o with
        | none => rfl
        | some m0 => cases a <;> first | cases h1 | cases hn
      subst this
      exact ⟨congrArg ((v, d, Md.F) :: ·) q1, q2⟩
theorem args_B {as : E} {vs : List V} {ds : List D} {ms : List Md} {tr : List Root} (o : Ops md σ en as vs ds ms tr) : ∀ {lm : List (Option Md)} {i : Nat}, lnts as = [i] → argsOk as lm ms = true →
    ∃ v d m, σ[i]? = some (some v) ∧ rdS en i = some d ∧ md[i]? = some m ∧ (argR lm vs ds).Perm ((v, d, m) :: trF tr) ∧ ∀ l, lentR lm vs [l] = [(v, l, m)] := by
  induction o with
  | nil => intro lm i e _; cases e
  | pk _ _ _ _ _ =>
    intro lm i _ h
    cases lm with
    | nil => cases h
    | cons o l => exact nomatch (Bool.and_eq_true_iff.mp h).1
  | @lnt j r v d m vs ds ms tr e1 e2 e3 o ih =>
    intro lm i e h
    cases lm with
    | nil => cases h
    | cons o' l =>
      obtain ⟨h1, h2⟩ := Bool.and_eq_true_iff.mp h
      have e' : j :: lnts r = [i] := e
      obtain ⟨rfl, er⟩ := List.cons.inj e'
      obtain ⟨q1, q2⟩ := args_A o er h2
      cases o' with
      | none => cases h1
      | some m0 =>
        have := of_decide_eq_true (show decide (m = m0) = true from h1)
        subst this
        refine ⟨v, d, m, e1, e2, e3, ?_, fun l' => ?_⟩
        · show ((v, d, m) :: argR l vs ds).Perm _
          rw [q1]
        · show (v, l', m) :: lentR l vs [] = _
          rw [q2]
  | @tmp a r v d m vs ds ms tr hn o ih =>
    intro lm i e h
    cases lm with
    | nil => cases h
    | cons o' l =>
      obtain ⟨h1, h2⟩ := Bool.and_eq_true_iff.mp h
      rw [lnts_tmp hn] at e
      obtain ⟨v', d', m', q1, q2, q3, q4, q5⟩ := ih e h2
      have : o' = none := by
        cases o' with
        | none => rfl
        | some m0 => cases a <;> first | cases h1 | cases hn
      subst this
      exact ⟨v', d', m', q1, q2, q3, (q4.cons (v, d, Md.F)).trans (.swap _ _ _), q5⟩
/-- what a call asks of its def -/
theorem call_sp {F : Fns} {f : Nat} {d : FnC} {W : WX} {as : E} {vs : List V} {ds : List D} {ms : List Md} {tr ts : List Root} {H : Hp} {Q : VK} (o : Ops md σ en as vs ds ms tr) (R : RepS md σ en (tr ++ ts) H) (hl : ds.length = d.np) (ha : argsOk as d.lm ms = true) (h1 : (lnts as).length ≤ 1)
    (P : Post md W σ ts (callO F f (lnts as) ds en) fun r en' => ∀ v H', RepS md σ en' ((v, r, d.rm) :: ts) H' → Q v H') : spF F f d vs H Q := by
  refine ⟨by rw [ops_len o]; exact hl, ds, ?_⟩
  have R2 := R.toF
  unfold callO at P
  cases e : F f ds with
  | exc c fs ls =>
    rw [e] at P
    simp only at P
    split at P
    · exact (show False from P).elim
    · exact (show False from P).elim
  | bad =>
    rw [e] at P
    exact (show False from P).elim
  | ret r ls =>
    rw [e] at P
    simp only at P
    split at P
    case h_2 => exact (show False from P).elim
    rename_i en' eb
    obtain ⟨rs, S, raw⟩ := R2
    match hi : lnts as, h1 with
    | [], _ =>
      rw [hi] at eb
      obtain ⟨q1, q2⟩ := args_A o hi ha
      cases ls with
      | cons _ _ => cases eb
      | nil =>
        cases eb
        refine ⟨rs ++ ts, hl, ?_, fun v H' R' => P v H' ⟨rs, S, ?_⟩⟩
        · rw [q1]
          exact raw.perm (List.perm_append_comm_assoc ..)
        · rw [q2, List.nil_append] at R'
          exact R'.perm perm_mid.symm
    | [i], _ =>
      rw [hi] at eb
      obtain ⟨v, d0, m, e1, e2, e3, e4, e5⟩ := args_B o hi ha
      obtain ⟨v', m', rs', k1, k2, k3, _, k5⟩ := S.take e2
      rw [e1] at k1; cases k1
      rw [e3] at k2; cases k2
      match ls, eb with
      | [], eb => cases eb
      | _ :: _ :: _, eb => cases eb
      | [l], eb =>
        cases eb
        refine ⟨rs' ++ ts, hl, ?_, fun v2 H' R' => ?_⟩
        · have p : (rs ++ (trF tr ++ ts)).Perm (argR d.lm vs ds ++ (rs' ++ ts)) := by
            refine (k3.append_right _).trans ?_
            refine List.Perm.trans ?_ (e4.symm.append_right _)
            refine List.Perm.cons _ ?_
            exact List.perm_append_comm_assoc ..
          exact raw.perm p
        · obtain ⟨rs2, S2, p2⟩ := k5 l
          refine P v2 H' ⟨rs2, S2, ?_⟩
          rw [e5] at R'
          refine R'.perm ?_
          refine List.Perm.trans ?_ perm_mid.symm
          refine List.Perm.cons _ ?_
          exact (p2.symm.append_right ts)
    | _ :: _ :: _, h1 => exact absurd h1 (by simp)
end
section
variable {C : Ck} {U : Ev} {X : Cx} {md : List Md} {W : WX} {as : E} {ms : List Md} {tes : List TE}
theorem run_G {k : Nat} {f : Addr} {fd : FuncData} {ps : List Str} {sp : List V → Hp → VK → Prop} {pins : List (Addr × Obj)} {σ : L2.St} {H : Hp} {s : Shared} {Q : VK} {us : List Value} {vs : List V} (F : FnG X.prog X.w X.K X.mg X.base k f fd ps sp) (hr : Room k X.A) (gd : X.A.guards = some [])
    (hb : Binds X.K fd ps []) (I : Inv X pins σ H s) (r : Vals vs us) (h : sp vs H Q) : wpAny (model X.prog X.w) X.A (call (.ref f) us) (EP X pins σ Q) X.xe s := by
  have hl : (us ++ ([] : List Value)).length = ps.length := by
    rw [List.append_nil, ← r.length]
    exact F.len vs H Q h
  have b := hb s us I.kIn hl
  rw [List.append_nil] at b
  refine wpAny_call (codeAny_mono (F.run X.A X.stack s H ⟨us, []⟩ us vs Q hr gd I.env0 b r h) fun res s' hq => ?_)
  match res, hq with
  | .error e, hq => exact (show False from hq).elim
  | .ok (.ret u), hq => exact I.after hq
  | .ok .next, hq => exact (show False from hq).elim
  | .ok .brk, hq => exact (show False from hq).elim
  | .ok .cont, hq => exact (show False from hq).elim
theorem pe_callG {k : Nat} {f : Addr} {fd : FuncData} {ps : List Str} {sp : List V → Hp → VK → Prop} {x : Str} {p pos : Pos} {es : List Expr} (F : FnG X.prog X.w X.K X.mg X.base k f fd ps sp) (hr : Room k X.A) (gd : X.A.guards = some []) (hg : Gl X x) (hm : X.mg x = some (.ref f))
    (hk : PySem.W.keepIn X.K (.ref f) = true) (hb : Binds X.K fd ps []) (hdb : (x == ("__debug__" : Str)) = false) (T : PEs X es tes) : PE X (.Call (.Name x p) es [] pos) fun σ H Q => chain tes σ H fun vs H' => sp vs H' Q := by
  refine ⟨fun pins s σ H Q I h => wpAny_Call_Name_kw (ld_glob I hg hm ?_ hdb)⟩
  have pa := T.pa
  cases T with
  | nil => exact PySem.W.callWith_K0 I.kIn hk (run_G (us := []) F hr gd hb I .nil h)
  | cons n m h1 t1 => exact PySem.W.callWith_K (h₀ := X.base) I.ok.mod.kin hk (thn (pa.run pos pins s σ H _ I h) fun us s1 ⟨vs, H1, I1, r, q⟩ => ⟨I1.kIn, run_G F hr gd hb I1 r q⟩) (star_no n) t1.plain
theorem call_pe (O : XOk C U X) {f : Nat} {d : FnC} {x : Str} {p pos : Pos} {es : List Expr} (hf : C.fns[f]? = some d) (hx : x = d.name) (hg : glo C x = true) (hp : plainN x = true) (hl : es.length = d.np) (hel : ∀ σ en vs ds tr, Ops md σ en as vs ds ms tr → ds.length = es.length)
    (ha : argsOk as d.lm ms = true) (h1 : (lnts as).length ≤ 1) (T : PEs X es tes) (imp : ∀ σ H Q, tDL md W (evL U as) as ms σ H Q → chain tes σ H Q) : PE X (.Call (.Name x p) es [] pos) (tD md d.rm W (evE U (.call f as))) := by
  subst hx
  obtain ⟨a, k, fd, ps, m1, k1, b1, l1, F, hr⟩ := O.fns f d hf
  have hdb : (d.name == ("__debug__" : Str)) = false := by
    unfold plainN at hp
    simp only [Bool.and_eq_true, Bool.not_eq_true'] at hp
    exact hp.1.1
  refine PE.imp (pe_callG F hr O.gd (O.glo hg) m1 k1 b1 hdb T) fun σ H Q h => ?_
  obtain ⟨en, ts, R, P⟩ := h
  rw [show evE U (.call f as) en = (evL U as en).bind fun ds σ => callO U.F f (lnts as) ds σ by rw [evE]] at P
  exact imp σ H _ ⟨en, ts, R, P.bind.mono fun ds en' _ P2 vs H' tr R' o => call_sp (W := W) o R' ((hel σ en' vs ds tr o).trans hl) ha h1 P2⟩
/-! ### methods of a list in a slot -/
theorem slot_list {σ : L2.St} {en : Sl} {ts : List Root} {H : Hp} {i : Nat} {m : Md} {ds : List D} (R : RepS md σ en ts H) (e : rdS en i = some (.list ds)) (hm : md[i]? = some (.O m)) : ∃ a rs', σ[i]? = some (some (.ref a)) ∧ Rep ((.ref a, .list ds, .O m) :: (rs' ++ ts)) H ∧
    ∀ d' ts' H', Rep ((.ref a, d', .O m) :: (rs' ++ ts')) H' → RepS md σ (en.set i (some d')) ts' H' := by
  obtain ⟨v, m', rs', h1, h2, h3, h4⟩ := R.open e
  rw [hm] at h2
  cases h2
  obtain ⟨Z, fp, z⟩ := id h3
  cases id z.own with
  | cons w t =>
    obtain ⟨a, fs, rfl, _⟩ := w
    exact ⟨a, rs', h1, h3, h4⟩
theorem isLs_ {en : Sl} {i : Nat} (h : isLs en i = true) : ∃ ds, rdS en i = some (.list ds) := by
  unfold isLs at h
  split at h
  · exact ⟨_, by assumption⟩
  · cases h
theorem mut_imp {o : Mop} {i : Nat} {m : Md} {r : V → List V → Hp → VK → Prop} (hm : md[i]? = some (.O m)) (imp : ∀ σ H Q, tDL md W (evL U as) as ms σ H Q → chain tes σ H Q)
    (step : ∀ (σ : L2.St) (en : Sl) (ts tr : List Root) (H : Hp) (vs : List V) (ds : List D) (v : V) (r0 x r1 : D) (Q : VK), σ[i]? = some (some v) → RepS md σ en (tr ++ ts) H → Ops md σ en as vs ds ms tr → rdS en i = some r0 → mopF o r0 ds = some (x, r1) →
      (∀ v H', RepS md σ (en.set i (some r1)) ((v, x, .F) :: ts) H' → Q v H') → r v vs H Q) (σ : L2.St) (H : Hp) (Q : VK) (h : tD md .F W (evE U (.mut o i as)) σ H Q) : tBM X.K "list" r (tVar i) (chain tes) σ H Q := by
  obtain ⟨en, ts, R, P⟩ := h
  rw [show evE U (.mut o i as) en = if isLs en i then (evL U as en).bind fun ds σ => mutO o i ds σ else .bad by rw [evE]] at P
  by_cases hi : isLs en i = true
  case neg => rw [if_neg hi] at P; exact P.elim
  rw [if_pos hi] at P
  obtain ⟨ds0, e0⟩ := isLs_ hi
  obtain ⟨a, rs', s1, raw, _⟩ := slot_list R e0 hm
  obtain ⟨xs, hx, _⟩ := rep_list raw
  refine ⟨.ref a, s1, .inl ⟨rfl, xs, .inl (.inl hx)⟩, imp σ H _ ⟨en, ts, R, P.bind.mono fun ds en' _ P2 vs H' tr R' o => ?_⟩⟩
  unfold mutO at P2
  split at P2
  case h_2 => exact (show False from P2).elim
  rename_i r0 e1
  split at P2
  case h_2 => exact (show False from P2).elim
  rename_i x r1 e2
  exact step σ en' ts tr H' vs ds _ r0 x r1 Q s1 R' o e1 e2 P2
theorem fit_one {md : List Md} {σ : L2.St} {en : Sl} {H : Hp} {m : Md} {a : E} {vs : List V} {d : D} {tr ts : List Root} (o : Ops md σ en (.cons a .nil) vs [d] ms tr) (n : noPk (.cons a .nil) = true) (f : fits m ms = true) (R : RepS md σ en (tr ++ ts) H) : ∃ y, vs = [y] ∧ RepS md σ en ((y, d, m) :: ts) H := by
  have f' : m = .F ∨ ∀ x ∈ ms, x = m := by
    unfold fits at f
    simp only [Bool.or_eq_true, decide_eq_true_eq, List.all_eq_true] at f
    exact f
  have R2 := R.toM o n f'
  have hl := ops_len o
  match vs, hl with
  | [y], _ => exact ⟨y, rfl, R2⟩
theorem mop_append {r0 x r1 : D} {ds : List D} (h : mopF .append r0 ds = some (x, r1)) : ∃ xs d, r0 = .list xs ∧ ds = [d] ∧ x = .none ∧ r1 = .list (xs ++ [d]) ∧ xs.length < sizeLine := by
  unfold mopF at h
  split at h <;> first | (split at h; (cases h; exact ⟨_, _, rfl, rfl, rfl, rfl, by assumption⟩); cases h) | contradiction | skip
theorem mop_extend {r0 x r1 : D} {ds : List D} (h : mopF .extend r0 ds = some (x, r1)) : ∃ xs ys, r0 = .list xs ∧ ds = [.list ys] ∧ x = .none ∧ r1 = .list (xs ++ ys) ∧ xs.length + ys.length ≤ sizeLine := by
  unfold mopF at h
  split at h <;> first | (split at h; (cases h; exact ⟨_, _, rfl, rfl, rfl, rfl, by assumption⟩); cases h) | contradiction | skip
theorem append_step {i : Nat} {m : Md} {a : E} (hm : md[i]? = some (.O m)) (n : noPk (.cons a .nil) = true) (f : fits m ms = true) (σ : L2.St) (en : Sl) (ts tr : List Root) (H : Hp) (vs : List V) (ds : List D) (v : V) (r0 x r1 : D) (Q : VK) (s1 : σ[i]? = some (some v)) (R : RepS md σ en (tr ++ ts) H)
    (o : Ops md σ en (.cons a .nil) vs ds ms tr) (e : rdS en i = some r0) (h : mopF .append r0 ds = some (x, r1)) (q : ∀ v H', RepS md σ (en.set i (some r1)) ((v, x, .F) :: ts) H' → Q v H') : rAppend v vs H Q := by
  obtain ⟨xs, d, rfl, rfl, rfl, rfl, hz⟩ := mop_append h
  obtain ⟨y, rfl, R2⟩ := fit_one o n f R
  obtain ⟨a, rs', s2, raw, close⟩ := slot_list R2 e hm
  rw [s1] at s2
  cases s2
  have raw2 : Rep ((y, d, m) :: (.ref a, .list xs, .O m) :: (rs' ++ ts)) H := raw.perm ((List.Perm.cons _ perm_mid).trans (.swap _ _ _))
  obtain ⟨us, h1, h2, h3⟩ := rep_append raw2
  exact ⟨a, us, y, rfl, rfl, h1, by rw [h2]; exact hz, q _ _ ((close _ _ _ h3).flat fun Z => .non)⟩
theorem extend_step {i : Nat} {m : Md} {a : E} (hm : md[i]? = some (.O m)) (n : noPk (.cons a .nil) = true) (f : fits (.O m) ms = true) (σ : L2.St) (en : Sl) (ts tr : List Root) (H : Hp) (vs : List V) (ds : List D) (v : V) (r0 x r1 : D) (Q : VK) (s1 : σ[i]? = some (some v)) (R : RepS md σ en (tr ++ ts) H)
    (o : Ops md σ en (.cons a .nil) vs ds ms tr) (e : rdS en i = some r0) (h : mopF .extend r0 ds = some (x, r1)) (q : ∀ v H', RepS md σ (en.set i (some r1)) ((v, x, .F) :: ts) H' → Q v H') : rExtend v vs H Q := by
  obtain ⟨xs, ys, rfl, rfl, rfl, rfl, hz⟩ := mop_extend h
  obtain ⟨y, rfl, R2⟩ := fit_one o n f R
  obtain ⟨a, rs', s2, raw, close⟩ := slot_list R2 e hm
  rw [s1] at s2
  cases s2
  have raw2 : Rep ((y, .list ys, .O m) :: (.ref a, .list xs, .O m) :: (rs' ++ ts)) H := raw.perm ((List.Perm.cons _ perm_mid).trans (.swap _ _ _))
  obtain ⟨b, rfl⟩ : ∃ b, y = .ref b := by
    obtain ⟨Z, fp, z⟩ := id raw2
    cases z.own with
    | cons w t =>
      obtain ⟨b, fs, rfl, _⟩ := w
      exact ⟨b, rfl⟩
  obtain ⟨us, ws, h1, h2, h3, h4, h5⟩ := rep_extend raw2
  exact ⟨a, b, us, ws, rfl, rfl, h1, h2, by rw [h3, h4]; exact hz, q _ _ ((close _ _ _ h5).flat fun Z => .non)⟩
def nameAttr (nm : Str) (e : Expr) : Option (Str × Expr) := match e with
  | .Call (.Attribute (.Name x _) n apos) [a] [] cpos => if n = nm && apos.endLine == cpos.line then some (x, a) else none
  | _ => none
theorem nameAttr_ {nm x : Str} {e a : Expr} (h : nameAttr nm e = some (x, a)) : ∃ p apos cpos, e = .Call (.Attribute (.Name x p) nm apos) [a] [] cpos ∧ (apos.endLine == cpos.line) = true := by
  unfold nameAttr at h
  split at h
  · split at h
    · rename_i h2
      simp only [Bool.and_eq_true, decide_eq_true_eq] at h2
      obtain ⟨rfl, h3⟩ := h2
      cases h
      exact ⟨_, _, _, rfl, h3⟩
    · cases h
  · cases h
theorem few1 {a : Expr} {cpos : Pos} (h : nostar a = true) : ((backTo cpos (starEach [a] X.env)).all (fun x => !x.1) && (backToKw cpos (keywordEach [] X.env)).all (fun x => x.1.isSome)
      && decide (([a] : List Expr).length + ([] : List Keyword).length + (if ([] : List Keyword).isEmpty then 0 else 1) < 30)) = true := by
  rw [star_no h]
  rfl
theorem meth_pe {nm x : Str} {id : String} {p apos cpos : Pos} {a : Expr} {i : Nat} {r : V → List V → Hp → VK → Prop} (pa : PlainAttrs "list") (slot : Slot "list" nm id) (hty : typeOf (.builtin id) = pure (.type "method_descriptor")) (hmt : MtM X id r) (O : XOk C U X) (hn : okN C i x = true)
    (hl : (apos.endLine == cpos.line) = true) (T : PEs X [a] tes) : PE X (.Call (.Attribute (.Name x p) nm apos) [a] [] cpos) (tBM X.K "list" r (tVar i) (chain tes)) := by
  obtain ⟨h1, h2, h3, h4⟩ := okN_ O hn
  have pA := T.pa
  obtain ⟨t, rfl, ht, n⟩ := T.one
  exact pe_bm pa slot hty hmt (pe_var h1 h2 h3 h4) pA rfl (few1 n) hl (star_no n) rfl
end
end Dt
end
section
set_option Elab.async false
set_option linter.all false
set_option maxRecDepth 100000
set_option maxHeartbeats 4000000
/-! The checker of expressions. -/
namespace Dt
open PySem PySem.Spec PyProof.Rows L2
def blkCk (C : Ck) (scope : Scope) : Ck := { C with sc := relS scope C.sc, own := scope }
def ownP (C : Ck) (own : List Nat) : List (Str × Nat) := own.map fun i => ((C.N[i]?).getD ⟨#[]⟩, i)
def tailB (op : BoolOp) (y : Expr) (r : List Expr) (p : Pos) : Expr := match r with
  | [] => y
  | z :: zs => .BoolOp op (y :: z :: zs) p
def plainT : Expr → Bool
  | .UnaryOp .Not _ _ => false
  | .BoolOp _ _ _ => false
  | .IfExp _ _ _ _ => false
  | .Compare _ _ _ _ => false
  | _ => true
def isBO : Expr → Bool
  | .BoolOp _ _ _ => true
  | _ => false
def subB (xs ys : List Nat) : Bool := xs.all fun x => decide (x ∈ ys)
def isYes : E → Bool
  | .bl true => true
  | _ => false
def pkI : E → Option Nat
  | .pk i => some i
  | .lnt i => some i
  | _ => none
def chkPk (C : Ck) (md : List Md) (i : Nat) (x : Expr) : Option Md := match x with
  | .Name y _ => if okN C i y then md[i]? else none
  | _ => none
def andOf (e : Expr) (op : BoolOp) : Option (Expr × Expr) := match e with
  | .BoolOp o (x :: y :: r) p => if o = op then some (x, tailB o y r p) else none
  | _ => none
def oM : Option Md → Option Md
  | some (.O m) => some m
  | _ => none
def isOp : E → Option Op
  | .op o _ _ => some o
  | _ => none
abbrev KE := Ck → Expr → Option Md
abbrev KT := Ck → Expr → Bool
abbrev KL := Ck → List Expr → Option (List Md)
def kVar (C : Ck) (md : List Md) (i : Nat) (e : Expr) : Option Md := match e with
  | .Name x _ => if okN C i x && decide (md[i]? = some .F) then some .F else none
  | _ => none
def kNon (e : Expr) : Option Md := match e with
  | .Constant .none _ _ => some .F
  | _ => none
def kBl (b : Bool) (e : Expr) : Option Md := match e with
  | .Constant (.bool b') _ _ => if b' = b then some .F else none
  | _ => none
def kInt (i : Int) (e : Expr) : Option Md := match e with
  | .Constant (.int j) _ _ => if j = i then some .F else none
  | _ => none
def kStr (s : Str) (e : Expr) : Option Md := match e with
  | .Constant (.str s') _ _ => if s' = s then some .F else none
  | _ => none
def kOp (C : Ck) (o : Op) (fr : Bool) (e : Expr) (l : KL) : Option Md := match opArgs C o e with
  | some es => (match l C es with
    | some ms => if ms.all flatM then some (rmO fr) else none
    | none => none)
  | none => none
def kAnd (C : Ck) (op : BoolOp) (e : Expr) (a b : KE) : Option Md := match andOf e op with
  | some (x, y) => if a C x = some .F ∧ b C y = some .F then some .F else none
  | none => none
def kNot (C : Ck) (e : Expr) (a : KE) : Option Md := match e with
  | .UnaryOp .Not x _ => if a C x = some .F then some .F else none
  | _ => none
def kIte (C : Ck) (e : Expr) (t : KT) (a b : KE) : Option Md := match e with
  | .IfExp c x y _ => if t C c then (match a C x, b C y with
    | some m1, some m2 => if m1 = m2 then some m1 else none
    | _, _ => none) else none
  | _ => none
def kTup (C : Ck) (n : Bool) (e : Expr) (l : KL) : Option Md := match e with
  | .Tuple es _ _ => (match l C es with
    | some _ => if n then some .F else none
    | none => none)
  | _ => none
def kLst (C : Ck) (n : Bool) (m : Md) (e : Expr) (l : KL) : Option Md := match e with
  | .List es _ => (match l C es with
    | some ms => if n && fits m ms then some (.O m) else none
    | none => none)
  | _ => none
def kDsp (C : Ck) (n : Bool) (ks : List Str) (e : Expr) (l : KL) : Option Md := match e with
  | .Dict keys vals _ => if strKeys ks keys && decide (keys.length = vals.length) && decide (ks.Nodup) && decide (ks.length ≤ 15) && !ks.isEmpty && n then (match l C vals with
    | some _ => some (.O .F)
    | none => none) else none
  | _ => none
def kCall (C : Ck) (f : Nat) (as : E) (e : Expr) (l : KL) : Option Md := match e with
  | .Call (.Name x _) es [] _ => (match C.fns[f]? with
    | some d => if decide (x = d.name) && glo C x && plainN x && decide (es.length = d.np) && decide ((lnts as).length ≤ 1) then (match l C es with
      | some ms => if argsOk as d.lm ms then some d.rm else none
      | none => none) else none
    | none => none)
  | _ => none
def kMut (C : Ck) (md : List Md) (nm : Str) (g : Md → Md) (i : Nat) (n : Bool) (e : Expr) (l : KL) : Option Md := match nameAttr nm e, oM (md[i]?) with
  | some (x, b), some m => if okN C i x && n then (match l C [b] with
    | some ms => if fits (g m) ms then some .F else none
    | none => none) else none
  | _, _ => none
def kIfs (C : Ck) (yes : Bool) (ifs : List Expr) (t : KT) : Bool := match ifs with
  | [] => yes
  | [x] => t C x
  | _ => false
def kLc (C : Ck) (md : List Md) (own : List Nat) (tg : Tg) (ik : Ik) (n : Bool) (yes : Bool) (m : Md) (e : Expr) (l : KL) (t : KT) (b : KE) : Option Md := match e with
  | .ListComp elt [⟨tx, iter, ifs, z⟩] scope _ => if decide (z = 0) && blkC C.N C.sc scope (ownP C own) && subB (tgs tg) own && n && tgE (blkCk C scope) md tg tx && kIfs (blkCk C scope) yes ifs t then (match itArgs C ik tx iter with
    | some es => (match l C es, b (blkCk C scope) elt with
      | some _, some m' => if fits m [m'] then some (.O m) else none
      | _, _ => none)
    | none => none) else none
  | _ => none
def kLc2 (C : Ck) (md : List Md) (own : List Nat) (tg : Tg) (ik : Ik) (n : Bool) (yes : Bool) (own1 : List Nat) (tg1 : Tg) (ik1 : Ik) (n1 : Bool) (yes1 : Bool) (m : Md) (e : Expr) (l : KL) (t : KT) (l1 : KL) (t1 : KT) (b : KE) : Option Md := match e with
  | .ListComp elt [⟨tx, iter, ifs, z⟩, ⟨tx1, iter1, ifs1, z1⟩] scope _ => if decide (z = 0) && decide (z1 = 0) && blkC C.N C.sc scope (ownP C own) && subB (tgs tg) own && subB own1 own && subB (tgs tg1) own1 && n && n1 && tgE (blkCk C scope) md tg tx && tgE (blkCk C scope) md tg1 tx1 && kIfs (blkCk C scope) yes ifs t && kIfs (blkCk C scope) yes1 ifs1 t1 then (match itArgs C ik tx iter, itArgs (blkCk C scope) ik1 tx1 iter1 with
    | some es, some es1 => (match l C es, l1 (blkCk C scope) es1, b (blkCk C scope) elt with
      | some _, some _, some m' => if fits m [m'] then some (.O m) else none
      | _, _, _ => none)
    | _, _ => none) else none
  | _ => none
def kDc (C : Ck) (md : List Md) (own : List Nat) (tg : Tg) (ik : Ik) (n : Bool) (yes : Bool) (e : Expr) (l : KL) (t : KT) (k b : KE) : Option Md := match e with
  | .DictComp kx elt [⟨tx, iter, ifs, z⟩] scope _ => if decide (z = 0) && blkC C.N C.sc scope (ownP C own) && subB (tgs tg) own && n && tgE (blkCk C scope) md tg tx && kIfs (blkCk C scope) yes ifs t then (match itArgs C ik tx iter with
    | some es => (match l C es, k (blkCk C scope) kx, b (blkCk C scope) elt with
      | some _, some mk, some _ => if flatM mk then some (.O .F) else none
      | _, _, _ => none)
    | none => none) else none
  | _ => none
def tAnd (C : Ck) (op : BoolOp) (e : Expr) (a b : KT) : Bool := match andOf e op with
  | some (x, y) => a C x && b C y
  | none => false
def tNot (C : Ck) (e : Expr) (a : KT) : Bool := match e with
  | .UnaryOp .Not x _ => a C x
  | _ => false
def tFlat (o : Option Md) : Bool := match o with
  | some m => flatM m
  | none => false
def tOp (C : Ck) (o : Op) (fr : Bool) (e : Expr) (l : KL) : Bool := if isCmp o then !fr && (kOp C o fr e l).isSome && !isBO e else plainT e && (kOp C o fr e l).isSome
def lCons (C : Ck) (md : List Md) (pk : Option Nat) (es : List Expr) (a : KE) (r : KL) : Option (List Md) := match es with
  | x :: xs => if nostar x then (match (match pk with
      | some i => chkPk C md i x
      | none => a C x), r C xs with
    | some m, some ms => some (m :: ms)
    | _, _ => none) else none
  | [] => none
def lNil (es : List Expr) : Option (List Md) := match es with
  | [] => some []
  | _ => none
mutual
def chkE (md : List Md) (a : E) (C : Ck) (e : Expr) : Option Md := match a with
  | .var i => kVar C md i e
  | .non => kNon e
  | .bl b => kBl b e
  | .int i => kInt i e
  | .str s => kStr s e
  | .op o fr as => kOp C o fr e (chkL md as)
  | .and a b => kAnd C .And e (chkE md a) (chkE md b)
  | .or a b => kAnd C .Or e (chkE md a) (chkE md b)
  | .not a => kNot C e (chkE md a)
  | .ite t a b => kIte C e (chkT md t) (chkE md a) (chkE md b)
  | .tup as => kTup C (noPk as) e (chkL md as)
  | .lst m as => kLst C (noPk as) m e (chkL md as)
  | .dsp ks as => kDsp C (noPk as) ks e (chkL md as)
  | .call f as => kCall C f as e (chkL md as)
  | .mut .append i as => kMut C md "append" (fun m => m) i (noPk as) e (chkL md as)
  | .mut .extend i as => kMut C md "extend" Md.O i (noPk as) e (chkL md as)
  | .lc own tg ik it c m b => kLc C md own tg ik (noPk it) (isYes c) m e (chkL md it) (chkT md c) (chkE md b)
  | .lc2 own tg ik it c own1 tg1 ik1 it1 c1 m b => kLc2 C md own tg ik (noPk it) (isYes c) own1 tg1 ik1 (noPk it1) (isYes c1) m e (chkL md it) (chkT md c) (chkL md it1) (chkT md c1) (chkE md b)
  | .dc own tg ik it c k b => kDc C md own tg ik (noPk it) (isYes c) e (chkL md it) (chkT md c) (chkE md k) (chkE md b)
  | _ => none
def chkT (md : List Md) (a : E) (C : Ck) (e : Expr) : Bool := match a with
  | .and a b => tAnd C .And e (chkT md a) (chkT md b)
  | .or a b => tAnd C .Or e (chkT md a) (chkT md b)
  | .not a => tNot C e (chkT md a)
  | .op o fr as => tOp C o fr e (chkL md as)
  | .call f as => plainT e && tFlat (kCall C f as e (chkL md as))
  | .var i => plainT e && tFlat (kVar C md i e)
  | .bl b => plainT e && tFlat (kBl b e)
  | _ => false
def chkL (md : List Md) (a : E) (C : Ck) (es : List Expr) : Option (List Md) := match a with
  | .nil => lNil es
  | .cons a r => lCons C md (pkI a) es (chkE md a) (chkL md r)
  | _ => none
end
/-! ### as rules -/
section
variable {C : Ck} {U : Ev} {X : Cx}
theorem XOk.blk (O : XOk C U X) {scope : Scope} {s : Shared} {H : Hp} {L : Addr} {cl : List (Str × Addr)} {fp : List Addr} : XOk (blkCk C scope) U (X.blk s H scope (compEnvC scope cl L X.env) fp) where
  N := O.N
  nd := O.nd
  sc := by
    show relS scope X.env.scope = relS scope C.sc
    rw [O.sc]
  calm := O.calm
  gd := O.gd
  un := O.un
  bl := O.bl
  cel := fun x h => by
    show (scope.names.lookup x == some .cell) = true
    rw [show scope.names.lookup x = some .cell from h]
    rfl
  xe := rfl
  fns := O.fns
theorem blk_ok (O : XOk C U X) {scope : Scope} {own : List Nat} (h : blkC C.N C.sc scope (ownP C own) = true) : BlkOk X.N X.env.scope scope (ownP C own) := by
  rw [O.N, O.sc]
  exact blkOk_by h
theorem ownP_map (own : List Nat) : (ownP C own).map (·.2) = own := by
  unfold ownP
  rw [List.map_map]
  show own.map id = own
  exact List.map_id own
theorem subB_ {xs ys : List Nat} (h : subB xs ys = true) : ∀ j ∈ xs, j ∈ ys := fun j hj => of_decide_eq_true (List.all_eq_true.mp h j hj)
theorem plainT_ {e : Expr} {env : Env} (h : plainT e = true) : ∀ whole, isTrue e env whole = (do let v ← whole; standAt e.pos; holding [v] (PySem.truthy v)) := by
  intro whole
  cases e with
  | UnaryOp op a p => cases op <;> first | rfl | cases h
  | BoolOp _ _ _ => cases h
  | IfExp _ _ _ _ => cases h
  | Compare _ _ _ _ => cases h
  | _ => rfl
theorem andOf_ {e x y : Expr} {op : BoolOp} (h : andOf e op = some (x, y)) : ∃ y0 r p, e = .BoolOp op (x :: y0 :: r) p ∧ y = tailB op y0 r p := by
  unfold andOf at h
  split at h
  · split at h
    · rename_i h2
      subst h2
      cases h
      exact ⟨_, _, _, rfl, rfl⟩
    · cases h
  · cases h
theorem PTs.imp {ifs : List Expr} {t t' : TT} (h : PTs X ifs t) (q : ∀ σ H Q, t' σ H Q → t σ H Q) : PTs X ifs t' := ⟨fun pins s σ H Q I w => h.run pins s σ H Q I (q σ H Q w)⟩
theorem PW.imp {e : Expr} {t t' : TT} (h : PW X e t) (q : ∀ σ H Q, t' σ H Q → t σ H Q) : PW X e t' := ⟨fun wh pins s σ H Q I w => h.run wh pins s σ H Q I (q σ H Q w)⟩
structure Snd (U : Ev) (a : E) : Prop where
  e : ∀ {C : Ck} {X : Cx} {md : List Md} {W : WX} {x : Expr} {m : Md}, XOk C U X → chkE md a C x = some m → PE X x (tD md m W (evE U a))
  t : ∀ {C : Ck} {X : Cx} {md : List Md} {W : WX} {x : Expr}, XOk C U X → chkT md a C x = true → PT X x (tDT md W (evT U a)) ∧ (isBO x = true → PW X x (tDT md W (evT U a)))
  l : ∀ {C : Ck} {X : Cx} {md : List Md} {W : WX} {es : List Expr} {ms : List Md}, XOk C U X → chkL md a C es = some ms → ∃ tes, PEs X es tes ∧ (∀ σ H Q, tDL md W (evL U a) a ms σ H Q → chain tes σ H Q) ∧ ∀ σ en vs ds tr, Ops md σ en a vs ds ms tr → ds.length = es.length
end
end Dt
end
section
set_option Elab.async false
set_option linter.all false
set_option maxRecDepth 100000
set_option maxHeartbeats 4000000
/-! Expressions: the checker is sound. -/
namespace Dt
open PySem PySem.Spec PyProof.Rows L2
def isLog : E → Bool
  | .and _ _ => true
  | .or _ _ => true
  | .not _ => true
  | _ => false
theorem evT_gen {U : Ev} {a : E} (h : isLog a = false) (σ : Sl) : evT U a σ = (evE U a σ).bind fun d σ => ofO (truthy d) σ := by
  cases a <;> first | exact absurd (show true = false from h) (by decide) | (rw [evT] <;> (intros; rename_i e; cases e))
theorem RepS.vw {md : List Md} {σ : L2.St} {en : Sl} {ts : List Root} {H : Hp} {v : V} {d : D} {m : Md} (h : RepS md σ en ((v, d, m) :: ts) H) (f : flatM m = true) : ∃ Z, Vw H Z v d := by
  obtain ⟨rs, S, Z, fp, z⟩ := h
  obtain ⟨g, w, _⟩ := z.own.get (List.mem_append_right _ (List.mem_cons_self ..))
  exact ⟨Z, w.vw f⟩
theorem RepS.boolV {md : List Md} {σ : L2.St} {en : Sl} {ts : List Root} {H : Hp} {v : V} {b : Bool} (h : RepS md σ en ((v, .bool b, .F) :: ts) H) : v = .bl b := by
  obtain ⟨Z, w⟩ := h.vw rfl
  exact vw_bl w
theorem nz (n : Nat) : (n != 0) = ((n : Int) != 0) := by
  cases n with
  | zero => rfl
  | succ n =>
    have h : ((n + 1 : Nat) : Int) ≠ 0 := by omega
    rw [bne_iff_ne.mpr h]
    rfl
theorem truV_of {K : PySem.W.Frag} {H : Hp} {Z : Addr → Prop} {v : V} {d : D} {b : Bool} (h : Vw H Z v d) (e : truthy d = some b) : TruV K v H b := by
  cases d with
  | none => cases (show v = .non from h); exact (Option.some.inj e).symm
  | bool c => cases vw_bl h; exact (Option.some.inj e).symm
  | int i => cases vw_int h; exact (Option.some.inj e).symm
  | str x =>
    cases vw_str h
    have e : (if x.length ≤ sizeLine then some (x.length != 0) else none) = some b := e
    split at e
    · refine ⟨by assumption, ?_⟩
      cases e
      exact nz _
    · cases e
  | list ds =>
    obtain ⟨a, xs, rfl, l, r⟩ := h
    refine .inl ⟨xs, l.sq, ?_⟩
    cases e
    cases r <;> rfl
  | tuple ds =>
    obtain ⟨a, xs, rfl, l, r⟩ := h
    refine .inr (.inl ⟨xs, .inl (.inl l), ?_⟩)
    cases e
    cases r <;> rfl
  | dict es => cases e
theorem cmp_bool {o : Op} {ds : List D} {d : D} (hc : isCmp o = true) (e : opF o ds = some d) : ∃ b, d = .bool b := by
  have no : ∀ {p : Prop}, (none : Option D) = some d → p := fun z => nomatch z
  have k : ∀ {o : Option Bool}, dBool o = some d → ∃ b, d = .bool b := fun h => by
    obtain ⟨b, _, q⟩ := dBool_some h
    exact ⟨b, q⟩
  match ds, e with
  | [], e => exact no e
  | [a], e => cases o <;> first | exact absurd hc (by decide) | exact no e | exact ⟨_, (Option.some.inj e).symm⟩
  | [a, b], e => cases o <;> first | exact absurd hc (by decide) | exact no e | exact k e
  | [a, b, c], e => cases o <;> first | exact absurd hc (by decide) | exact no e
  | a :: b :: c :: f :: r, e => exact no e
section
variable {C : Ck} {U : Ev} {X : Cx} {md : List Md} {W : WX}
theorem t_gen {a : E} {x : Expr} {m : Md} (h : PE X x (tD md m W (evE U a))) (f : flatM m = true) (p : plainT x = true) (ev : ∀ σ, evT U a σ = (evE U a σ).bind fun d σ => ofO (truthy d) σ) : PT X x (tDT md W (evT U a)) := by
  refine PT.imp (pt_truth h (plainT_ p)) fun σ H Q ⟨en, ts, R, P⟩ => ⟨en, ts, R, ?_⟩
  rw [ev] at P
  refine P.bind.mono fun d en' _ P2 v H' R' => ?_
  obtain ⟨b, e, q⟩ := P2.ofO
  obtain ⟨Z, w⟩ := R'.vw f
  exact ⟨b, truV_of w e, q H' R'.tail⟩
/-- a comparison as a test -/
theorem cmp_test {o : Op} {as : E} {ms : List Md} {es : List Expr} {x : Expr} {tes : List TE} (O : XOk C U X) (h : opArgs C o x = some es) (hc : isCmp o = true) (fl : ms.all flatM = true) (T : PEs X es tes) (imp : ∀ σ H Q, tDL md W (evL U as) as ms σ H Q → chain tes σ H Q) :
    PT X x (tDT md W (evT U (.op o false as))) := by
  obtain ⟨r, od, k⟩ := op_okT O h hc
  refine PT.imp (k tes T) fun σ H Q ⟨en, ts, R, P⟩ => imp σ H _ ⟨en, ts, R, ?_⟩
  rw [show evT U (.op o false as) en = (evE U (.op o false as) en).bind fun d σ => ofO (truthy d) σ from evT_gen rfl en, show evE U (.op o false as) en = (evL U as en).bind fun ds σ => ofO (opR o false ds) σ by rw [evE]] at P
  refine P.bind.bind.mono fun ds en' _ P2 vs H' tr R' o' => ?_
  obtain ⟨d, e, q⟩ := P2.ofO
  obtain ⟨b, e2, q⟩ := q.ofO
  obtain ⟨c, rfl⟩ := cmp_bool hc (opR_any e)
  have e2 : c = b := Option.some.inj e2
  subst e2
  exact op_at od R' o' fl e fun v H' R' => ⟨c, R'.boolV, q H' R'.tail⟩
theorem isYes_ {c : E} (h : isYes c = true) : c = .bl true := by
  unfold isYes at h
  split at h
  · rfl
  · cases h
theorem ifs_ok {c : E} (hc : Snd U c) (O : XOk C U X) {ifs : List Expr} (h : kIfs C (isYes c) ifs (chkT md c) = true) : PTs X ifs (tDT md W (evT U c)) := by
  match ifs, h with
  | [], h =>
    have e : c = .bl true := isYes_ h
    subst e
    refine PTs.imp pts_nil fun σ H Q ⟨en, ts, R, P⟩ => ?_
    have e : evT U (.bl true) en = .ok true en := by
      rw [evT_gen rfl, evE]
      rfl
    rw [e] at P
    exact P H R
  | [x], h => exact pts_one (hc.t O h).1
  | _ :: _ :: _, h => cases h
theorem pi_ok {it : E} (hit : Snd U it) (O : XOk C U X) {ik : Ik} {t iter : Expr} {es : List Expr} {ms : List Md} (h1 : itArgs C ik t iter = some es) (h2 : chkL md it C es = some ms) (n : noPk it = true) :
    PI X t iter (iD md W (itM U ik it)) ∧ ∀ env x, foldedSetIterable iter env x = pure x := by
  obtain ⟨r, idr, k, fs⟩ := it_ok O h1
  obtain ⟨tes, T, imp, _⟩ := hit.l (W := W) O h2
  exact ⟨PI.imp (k tes T) fun σ H R w => it_imp idr n imp σ H R w, fs⟩
theorem fits_one {m m' : Md} (h : fits m [m'] = true) : m' = m ∨ m = .F := by
  unfold fits at h
  simp only [List.all_cons, List.all_nil, Bool.and_true, Bool.or_eq_true, decide_eq_true_eq] at h
  exact h.symm
/-- what a name's store may be -/
def SetOk (X : Cx) (x : Expr) (t : TE) : Prop := ∀ (i : Nat) (y : Str) (py spos : Pos), X.N[i]? = some y → X.env.scope.names.lookup y = some .local → swapsWith x (some (.Name y py)) spos.line X.env = pure true → PS X (.Assign [.Name y py] x spos) (tAsg t (gName i))
end
end Dt
end
section
set_option Elab.async false
set_option linter.all false
set_option maxRecDepth 100000
set_option maxHeartbeats 4000000
/-! Comprehensions: the checker is sound. -/
namespace Dt
open PySem PySem.Spec PyProof.Rows L2
section
variable {C : Ck} {U : Ev} {X : Cx} {md : List Md} {W : WX}
theorem lc_rules {own : List Nat} {tg : Tg} {ik : Ik} {it c b : E} {m mm : Md} {x : Expr} (hit : Snd U it) (hc : Snd U c) (hb : Snd U b) (O : XOk C U X) (h : chkE md (.lc own tg ik it c m b) C x = some mm) :
    mm = .O m ∧ PE X x (tD md (.O m) W (evE U (.lc own tg ik it c m b))) ∧ SetOk X x (tD md (.O m) W (evE U (.lc own tg ik it c m b))) := by
  rw [chkE] at h
  unfold kLc at h
  split at h
  case h_2 => cases h
  rename_i elt t iter ifs n scope p
  split at h
  case isFalse => cases h
  rename_i hb1
  simp only [Bool.and_eq_true, decide_eq_true_eq] at hb1
  obtain ⟨⟨⟨⟨⟨rfl, k2⟩, k3⟩, k4⟩, k5⟩, k6⟩ := hb1
  split at h
  case h_2 => cases h
  rename_i es e1
  split at h
  case h_2 => cases h
  rename_i ms m' e2 e3
  split at h
  case isFalse => cases h
  rename_i hf
  cases h
  obtain ⟨pi, fs⟩ := pi_ok (W := W) hit O e1 e2 k4
  have B := blk_ok O k2
  have imp := lc_imp (md := md) (W := W) (U := U) (ik := ik) (it := it) (c := c) (e := b) (fits_one hf) (subB_ k3)
  have e := ownP_map (C := C) own
  refine ⟨rfl, PE.imp (pe_lc O.calm O.nd pi B (fun _ _ _ _ _ => pg_snd O.blk k5) (fun _ _ _ _ _ => ifs_ok (W := W) hc O.blk k6) (fun _ _ _ _ _ => hb.e (W := W) O.blk e3) (fs _)) fun σ H Q w => ?_, fun i y py spos hy hyl hsw => PS.imp (ps_setLc O.calm O.nd hy hyl hsw pi B (fun _ _ _ _ _ => pg_snd O.blk k5) (fun _ _ _ _ _ => ifs_ok (W := W) hc O.blk k6) (fun _ _ _ _ _ => hb.e (W := W) O.blk e3) (fs _)) fun D σ H w => ?_⟩
  · rw [e]; exact imp σ H Q w
  · rw [e]; exact imp σ H _ w
theorem lc2_rules {own own1 : List Nat} {tg tg1 : Tg} {ik ik1 : Ik} {it it1 c c1 b : E} {m mm : Md} {x : Expr} (hit : Snd U it) (hc : Snd U c) (hit1 : Snd U it1) (hc1 : Snd U c1) (hb : Snd U b) (O : XOk C U X) (h : chkE md (.lc2 own tg ik it c own1 tg1 ik1 it1 c1 m b) C x = some mm) :
    mm = .O m ∧ PE X x (tD md (.O m) W (evE U (.lc2 own tg ik it c own1 tg1 ik1 it1 c1 m b))) ∧ SetOk X x (tD md (.O m) W (evE U (.lc2 own tg ik it c own1 tg1 ik1 it1 c1 m b))) := by
  rw [chkE] at h
  unfold kLc2 at h
  split at h
  case h_2 => cases h
  rename_i elt t iter ifs z t1 iter1 ifs1 z1 scope p
  split at h
  case isFalse => cases h
  rename_i hb1
  simp only [Bool.and_eq_true, decide_eq_true_eq] at hb1
  obtain ⟨⟨⟨⟨⟨⟨⟨⟨⟨⟨⟨rfl, rfl⟩, k2⟩, k3⟩, k3a⟩, k3b⟩, k4⟩, k4a⟩, k5⟩, k5a⟩, k6⟩, k6a⟩ := hb1
  split at h
  case h_2 => cases h
  rename_i es es1 e1 e1a
  split at h
  case h_2 => cases h
  rename_i ms ms1 m' e2 e2a e3
  split at h
  case isFalse => cases h
  rename_i hf
  cases h
  obtain ⟨pi, fs⟩ := pi_ok (W := W) hit O e1 e2 k4
  have B := blk_ok O k2
  have imp := lc2_imp (md := md) (W := W) (U := U) (ik := ik) (it := it) (c := c) (ik1 := ik1) (it1 := it1) (c1 := c1) (e := b) (fits_one hf) (subB_ k3) (subB_ k3b)
  have e := ownP_map (C := C) own
  have hv : ∀ i ∈ own1, i ∈ (ownP C own).map (·.2) := by rw [e]; exact subB_ k3a
  have fs1 : ∀ env x, foldedSetIterable iter1 env x = pure x := (pi_ok (W := W) hit1 (O.blk (scope := scope) (s := X.s_0) (H := X.H_0) (L := 0) (cl := []) (fp := [])) e1a e2a k4a).2
  refine ⟨rfl, PE.imp (pe_lc2 O.calm O.nd pi B hv (fun _ _ _ _ _ => pg_snd O.blk k5) (fun _ _ _ _ _ => ifs_ok (W := W) hc O.blk k6) (fun _ _ _ _ _ => (pi_ok (W := W) hit1 O.blk e1a e2a k4a).1) (fun _ _ _ _ _ => pg_snd O.blk k5a) (fun _ _ _ _ _ => ifs_ok (W := W) hc1 O.blk k6a) (fun _ _ _ _ _ => hb.e (W := W) O.blk e3) (fs _) fs1) fun σ H Q w => ?_,
    fun i y py spos hy hyl hsw => PS.imp (ps_setLc2 O.calm O.nd hy hyl hsw pi B hv (fun _ _ _ _ _ => pg_snd O.blk k5) (fun _ _ _ _ _ => ifs_ok (W := W) hc O.blk k6) (fun _ _ _ _ _ => (pi_ok (W := W) hit1 O.blk e1a e2a k4a).1) (fun _ _ _ _ _ => pg_snd O.blk k5a) (fun _ _ _ _ _ => ifs_ok (W := W) hc1 O.blk k6a) (fun _ _ _ _ _ => hb.e (W := W) O.blk e3) (fs _) fs1) fun D σ H w => ?_⟩
  · rw [e]; exact imp σ H Q w
  · rw [e]; exact imp σ H _ w
theorem dc_rules {own : List Nat} {tg : Tg} {ik : Ik} {it c k b : E} {mm : Md} {x : Expr} (hit : Snd U it) (hc : Snd U c) (hk : Snd U k) (hb : Snd U b) (O : XOk C U X) (h : chkE md (.dc own tg ik it c k b) C x = some mm) :
    mm = .O .F ∧ PE X x (tD md (.O .F) W (evE U (.dc own tg ik it c k b))) := by
  rw [chkE] at h
  unfold kDc at h
  split at h
  case h_2 => cases h
  rename_i kx elt t iter ifs n scope p
  split at h
  case isFalse => cases h
  rename_i hb1
  simp only [Bool.and_eq_true, decide_eq_true_eq] at hb1
  obtain ⟨⟨⟨⟨⟨rfl, k2⟩, k3⟩, k4⟩, k5⟩, k6⟩ := hb1
  split at h
  case h_2 => cases h
  rename_i es e1
  split at h
  case h_2 => cases h
  rename_i ms mk mv e2 e3 e4
  split at h
  case isFalse => cases h
  rename_i hf
  cases h
  obtain ⟨pi, fs⟩ := pi_ok (W := W) hit O e1 e2 k4
  have B := blk_ok O k2
  have imp := dc_imp (md := md) (W := W) (U := U) (ik := ik) (it := it) (c := c) (k := k) (e := b) (mv := mv) hf (subB_ k3)
  have e := ownP_map (C := C) own
  refine ⟨rfl, PE.imp (pe_dc O.calm O.nd pi B (fun _ _ _ _ _ => pg_snd O.blk k5) (fun _ _ _ _ _ => ifs_ok (W := W) hc O.blk k6) (fun _ _ _ _ _ => hk.e (W := W) O.blk e3) (fun _ _ _ _ _ => hb.e (W := W) O.blk e4) (fs _)) fun σ H Q w => ?_⟩
  rw [e]; exact imp σ H Q w
end
end Dt
end
section
set_option Elab.async false
set_option linter.all false
set_option maxRecDepth 100000
set_option maxHeartbeats 4000000
/-! Expressions: the checker is sound (the whole). -/
namespace Dt
open PySem PySem.Spec PyProof.Rows L2
theorem evL_cons {U : Ev} {a r : E} (h : pkI a = none) (σ : Sl) : evL U (.cons a r) σ = (evE U a σ).bind fun d σ => (evL U r σ).bind fun ds σ => .ok (d :: ds) σ := by
  cases a <;> first | exact nomatch (show some _ = none from h) | (rw [evL] <;> (intros; rename_i e; cases e))
theorem pkI_no {a : E} (h : pkI a = none) : isPk a = false := by
  cases a <;> first | exact nomatch (show some _ = none from h) | rfl
section
variable {C : Ck} {U : Ev} {X : Cx} {md : List Md} {W : WX}
theorem var_e {i : Nat} {x : Expr} {m : Md} (O : XOk C U X) (h : kVar C md i x = some m) : m = .F ∧ PE X x (tD md .F W (evE U (.var i))) := by
  unfold kVar at h
  split at h
  case h_2 => cases h
  split at h
  case isFalse => cases h
  rename_i y p hq
  cases h
  obtain ⟨h1, h2⟩ := Bool.and_eq_true_iff.mp hq
  have h2 := of_decide_eq_true h2
  obtain ⟨k1, k2, k3, k4⟩ := okN_ O h1
  refine ⟨rfl, PE.imp (pe_var k1 k2 k3 k4) fun σ H Q ⟨en, ts, R, P⟩ => ?_⟩
  rw [show evE U (.var i) en = ofO (rdS en i) en by rw [evE]] at P
  obtain ⟨d, e, q⟩ := P.ofO
  obtain ⟨v, e1, R2⟩ := R.dup e h2
  exact ⟨v, e1, q v H R2⟩
theorem con_e {v : V} {d : D} {a : E} {x : Expr} (h : PE X x (tC v)) (ev : ∀ σ, evE U a σ = .ok d σ) (r : ∀ H Z, Dt.Rd H Z v d) : PE X x (tD md .F W (evE U a)) := by
  refine PE.imp h fun σ H Q ⟨en, ts, R, P⟩ => ?_
  rw [ev] at P
  exact P v H (R.flat fun Z => r H Z)
theorem op_e {o : Op} {fr : Bool} {as : E} {x : Expr} {m : Md} (hl : Snd U as) (O : XOk C U X) (h : kOp C o fr x (chkL md as) = some m) : m = rmO fr ∧ PE X x (tD md (rmO fr) W (evE U (.op o fr as))) := by
  unfold kOp at h
  split at h
  case h_2 => cases h
  rename_i es e1
  split at h
  case h_2 => cases h
  rename_i ms e2
  split at h
  case isFalse => cases h
  rename_i fl
  cases h
  obtain ⟨r, od, k⟩ := op_ok O e1
  obtain ⟨tes, T, imp, _⟩ := hl.l (W := W) O e2
  exact ⟨rfl, PE.imp (k tes T) fun σ H Q w => op_snd od fl imp σ H Q w⟩
theorem call_e {f : Nat} {as : E} {x : Expr} {m : Md} (hl : Snd U as) (O : XOk C U X) (h : kCall C f as x (chkL md as) = some m) : PE X x (tD md m W (evE U (.call f as))) := by
  unfold kCall at h
  split at h
  case h_2 => cases h
  rename_i y p0 es p1
  split at h
  case h_2 => cases h
  rename_i d e1
  split at h
  case isFalse => cases h
  rename_i hq
  simp only [Bool.and_eq_true, decide_eq_true_eq] at hq
  obtain ⟨⟨⟨⟨k1, k2⟩, k3⟩, k4⟩, k5⟩ := hq
  split at h
  case h_2 => cases h
  rename_i ms e2
  split at h
  case isFalse => cases h
  rename_i ha
  cases h
  obtain ⟨tes, T, imp, hel⟩ := hl.l (W := W) O e2
  exact call_pe O e1 k1 k2 k3 k4 hel ha k5 T imp
theorem tail_e {op : BoolOp} {y0 : Expr} {r : List Expr} {p : Pos} {t : TE} (h : PE X (tailB op y0 r p) t) : PE X (.BoolOp op (y0 :: r) p) t := by
  cases r with
  | nil => exact pe_one h
  | cons z zs => exact h
theorem kAnd_ {op : BoolOp} {x : Expr} {a b : KE} {m : Md} (h : kAnd C op x a b = some m) : m = .F ∧ ∃ x0 y0 r p, x = .BoolOp op (x0 :: y0 :: r) p ∧ a C x0 = some .F ∧ b C (tailB op y0 r p) = some .F := by
  unfold kAnd at h
  split at h
  case h_2 => cases h
  rename_i x0 y e1
  split at h
  case isFalse => cases h
  rename_i hq
  cases h
  obtain ⟨y0, r, p, rfl, rfl⟩ := andOf_ e1
  exact ⟨rfl, _, _, _, _, rfl, hq.1, hq.2⟩
theorem and_e {a b : E} {x : Expr} {m : Md} (ha : Snd U a) (hb : Snd U b) (O : XOk C U X) (h : kAnd C .And x (chkE md a) (chkE md b) = some m) : m = .F ∧ PE X x (tD md .F W (evE U (.and a b))) := by
  obtain ⟨rfl, x0, y0, r, p, rfl, h1, h2⟩ := kAnd_ h
  refine ⟨rfl, PE.imp (pe_and (ha.e (W := W) O h1) (tail_e (hb.e (W := W) O h2))) fun σ H Q ⟨en, ts, R, P⟩ => ⟨en, ts, R, ?_⟩⟩
  rw [evE] at P
  refine P.bind.mono fun d en' _ P2 v H' R' => ?_
  split at P2
  · cases R'.boolV
    exact ⟨true, rfl, en', ts, R'.tail, P2⟩
  · cases R'.boolV
    exact ⟨false, rfl, P2 _ _ R'⟩
  · exact P2.elim
theorem or_e {a b : E} {x : Expr} {m : Md} (ha : Snd U a) (hb : Snd U b) (O : XOk C U X) (h : kAnd C .Or x (chkE md a) (chkE md b) = some m) : m = .F ∧ PE X x (tD md .F W (evE U (.or a b))) := by
  obtain ⟨rfl, x0, y0, r, p, rfl, h1, h2⟩ := kAnd_ h
  refine ⟨rfl, PE.imp (pe_or (ha.e (W := W) O h1) (tail_e (hb.e (W := W) O h2))) fun σ H Q ⟨en, ts, R, P⟩ => ⟨en, ts, R, ?_⟩⟩
  rw [evE] at P
  refine P.bind.mono fun d en' _ P2 v H' R' => ?_
  split at P2
  · cases R'.boolV
    exact ⟨true, rfl, P2 _ _ R'⟩
  · cases R'.boolV
    exact ⟨false, rfl, en', ts, R'.tail, P2⟩
  · exact P2.elim
theorem not_e {a : E} {x : Expr} {m : Md} (ha : Snd U a) (O : XOk C U X) (h : kNot C x (chkE md a) = some m) : m = .F ∧ PE X x (tD md .F W (evE U (.not a))) := by
  unfold kNot at h
  split at h
  case h_2 => cases h
  split at h
  case isFalse => cases h
  rename_i x0 p h1
  cases h
  refine ⟨rfl, PE.imp (pe_not (ha.e (W := W) O h1)) fun σ H Q ⟨en, ts, R, P⟩ => ⟨en, ts, R, ?_⟩⟩
  rw [evE] at P
  refine P.bind.mono fun d en' _ P2 v H' R' => ?_
  split at P2
  · cases R'.boolV
    exact ⟨_, rfl, P2 _ _ (R'.tail.flat fun Z => .bl _)⟩
  · exact P2.elim
theorem ite_e {t a b : E} {x : Expr} {m : Md} (ht : Snd U t) (ha : Snd U a) (hb : Snd U b) (O : XOk C U X) (h : kIte C x (chkT md t) (chkE md a) (chkE md b) = some m) : PE X x (tD md m W (evE U (.ite t a b))) := by
  unfold kIte at h
  split at h
  case h_2 => cases h
  rename_i c0 x0 y0 p
  split at h
  case isFalse => cases h
  rename_i h1
  split at h
  case h_2 => cases h
  rename_i m1 m2 e1 e2
  split at h
  case isFalse => cases h
  rename_i em
  subst em
  cases h
  refine PE.imp (pe_ifExp (ht.t (W := W) O h1).1 (ha.e (W := W) O e1) (hb.e (W := W) O e2)) fun σ H Q ⟨en, ts, R, P⟩ => ⟨en, ts, R, ?_⟩
  rw [show evE U (.ite t a b) en = (evT U t en).bind fun c σ => if c then evE U a σ else evE U b σ by rw [evE]] at P
  refine P.bind.mono fun c en' _ P2 H' R' => ?_
  cases c with
  | true => exact ⟨en', ts, R', P2⟩
  | false => exact ⟨en', ts, R', P2⟩
theorem tup_e {as : E} {x : Expr} {m : Md} (hl : Snd U as) (O : XOk C U X) (h : kTup C (noPk as) x (chkL md as) = some m) : m = .F ∧ PE X x (tD md .F W (evE U (.tup as))) := by
  unfold kTup at h
  split at h
  case h_2 => cases h
  split at h
  case h_2 => cases h
  rename_i es k p ms e1
  split at h
  case isFalse => cases h
  rename_i n
  cases h
  obtain ⟨tes, T, imp, _⟩ := hl.l (W := W) O e1
  exact ⟨rfl, PE.imp (pe_tup T.pa) fun σ H Q w => tup_imp n imp σ H Q w⟩
theorem lst_e {as : E} {x : Expr} {m0 m : Md} (hl : Snd U as) (O : XOk C U X) (h : kLst C (noPk as) m0 x (chkL md as) = some m) : m = .O m0 ∧ PE X x (tD md (.O m0) W (evE U (.lst m0 as))) := by
  unfold kLst at h
  split at h
  case h_2 => cases h
  split at h
  case h_2 => cases h
  rename_i es p ms e1
  split at h
  case isFalse => cases h
  rename_i n
  obtain ⟨n, f⟩ := Bool.and_eq_true_iff.mp n
  cases h
  obtain ⟨tes, T, imp, _⟩ := hl.l (W := W) O e1
  exact ⟨rfl, PE.imp (pe_lst T.pa) fun σ H Q w => lst_imp n f imp σ H Q w⟩
theorem strKeys_len : ∀ {ks : List Str} {keys : List (Option Expr)}, strKeys ks keys = true → keys.length = ks.length
  | [], [], _ => rfl
  | [], _ :: _, h => by cases h
  | _ :: _, [], h => by cases h
  | k :: ks, k0 :: r, h => by
    cases k0 with
    | none => cases h
    | some e =>
      cases e with
      | Constant c _ _ =>
        cases c with
        | str x => rw [List.length_cons, List.length_cons, strKeys_len (Bool.and_eq_true_iff.mp h).2]
        | _ => cases h
      | _ => cases h
theorem dsp_e {as : E} {ks : List Str} {x : Expr} {m : Md} (hl : Snd U as) (O : XOk C U X) (h : kDsp C (noPk as) ks x (chkL md as) = some m) : m = .O .F ∧ PE X x (tD md (.O .F) W (evE U (.dsp ks as))) := by
  unfold kDsp at h
  split at h
  case h_2 => cases h
  rename_i keys vals p
  split at h
  case isFalse => cases h
  rename_i hq
  simp only [Bool.and_eq_true, decide_eq_true_eq, Bool.not_eq_true', List.isEmpty_eq_false_iff] at hq
  obtain ⟨⟨⟨⟨⟨k1, k2⟩, k3⟩, k4⟩, k5⟩, k6⟩ := hq
  split at h
  case h_2 => cases h
  rename_i ms e1
  cases h
  obtain ⟨tes, T, imp, _⟩ := hl.l (W := W) O e1
  obtain ⟨q1, q2, q3⟩ := pps_of (pos := p) T k1 k2
  have len1 : keys.length = ks.length := strKeys_len k1
  have ne : keys ≠ [] := fun e => by
    rw [e] at len1
    exact k5 (List.eq_nil_of_length_eq_zero len1.symm)
  exact ⟨rfl, PE.imp (pe_disp q1 q2 k2 ne (by omega)) fun σ H Q w => dsp_imp T k6 k3 k4 q3 imp σ H Q w⟩
theorem kMut_ {nm : Str} {g : Md → Md} {i : Nat} {n : Bool} {x : Expr} {l : KL} {m : Md} (h : kMut C md nm g i n x l = some m) : m = .F ∧ ∃ y b m0 ms, nameAttr nm x = some (y, b) ∧ md[i]? = some (.O m0) ∧ okN C i y = true ∧ n = true ∧ l C [b] = some ms ∧ fits (g m0) ms = true := by
  unfold kMut at h
  split at h
  case h_2 => cases h
  rename_i y b m0 e1 e2
  split at h
  case isFalse => cases h
  rename_i hq
  split at h
  case h_2 => cases h
  rename_i ms e3
  split at h
  case isFalse => cases h
  rename_i hf
  cases h
  refine ⟨rfl, y, b, m0, ms, e1, ?_, (Bool.and_eq_true_iff.mp hq).1, (Bool.and_eq_true_iff.mp hq).2, e3, hf⟩
  unfold oM at e2
  split at e2
  · cases e2; assumption
  · cases e2
theorem one_of_l {as : E} {b : Expr} {ms : List Md} (h : chkL md as C [b] = some ms) : ∃ a, as = .cons a .nil := by
  cases as with
  | cons a r =>
    rw [chkL] at h
    unfold lCons at h
    simp only at h
    split at h
    case isFalse => cases h
    split at h
    case h_2 => cases h
    rename_i e2
    cases r with
    | nil => exact ⟨a, rfl⟩
    | cons _ _ => rw [chkL] at e2; cases e2
    | _ => rw [chkL] at e2 <;> first | cases e2 | (intros; rename_i q; cases q)
  | nil => rw [chkL] at h; cases h
  | _ => rw [chkL] at h <;> first | cases h | (intros; rename_i q; cases q)
theorem append_e {i : Nat} {as : E} {x : Expr} {m : Md} (hl : Snd U as) (O : XOk C U X) (h : kMut C md "append" (fun m => m) i (noPk as) x (chkL md as) = some m) : m = .F ∧ PE X x (tD md .F W (evE U (.mut .append i as))) := by
  obtain ⟨rfl, y, b, m0, ms, e1, e2, e3, n, e4, f⟩ := kMut_ h
  obtain ⟨a, rfl⟩ := one_of_l e4
  obtain ⟨p, apos, cpos, rfl, hline⟩ := nameAttr_ e1
  obtain ⟨tes, T, imp, _⟩ := hl.l (W := W) O e4
  exact ⟨rfl, PE.imp (meth_pe PySem.F.plainAttrs_list PySem.F.slot_list_append PySem.F.type_list_append mt_append O e3 hline T) fun σ H Q w => mut_imp e2 imp (append_step e2 n f) σ H Q w⟩
theorem extend_e {i : Nat} {as : E} {x : Expr} {m : Md} (hl : Snd U as) (O : XOk C U X) (h : kMut C md "extend" Md.O i (noPk as) x (chkL md as) = some m) : m = .F ∧ PE X x (tD md .F W (evE U (.mut .extend i as))) := by
  obtain ⟨rfl, y, b, m0, ms, e1, e2, e3, n, e4, f⟩ := kMut_ h
  obtain ⟨a, rfl⟩ := one_of_l e4
  obtain ⟨p, apos, cpos, rfl, hline⟩ := nameAttr_ e1
  obtain ⟨tes, T, imp, _⟩ := hl.l (W := W) O e4
  exact ⟨rfl, PE.imp (meth_pe PySem.F.plainAttrs_list PySem.F.slot_list_extend PySem.F.type_list_extend mt_extend O e3 hline T) fun σ H Q w => mut_imp e2 imp (extend_step e2 n f) σ H Q w⟩
/-! ### tests -/
theorem tail_w {op : BoolOp} {y0 : Expr} {r : List Expr} {p : Pos} {t : TT} (h : PT X (tailB op y0 r p) t ∧ (isBO (tailB op y0 r p) = true → PW X (tailB op y0 r p) t)) : PW X (.BoolOp op (y0 :: r) p) t := by
  cases r with
  | nil => cases op with
    | And => exact pw_and1 h.1
    | Or => exact pw_or1 h.1
  | cons z zs => exact h.2 rfl
theorem tAnd_ {op : BoolOp} {x : Expr} {a b : KT} (h : Dt.tAnd C op x a b = true) : ∃ x0 y0 r p, x = .BoolOp op (x0 :: y0 :: r) p ∧ a C x0 = true ∧ b C (tailB op y0 r p) = true := by
  unfold Dt.tAnd at h
  split at h
  case h_2 => cases h
  rename_i x0 y e1
  obtain ⟨h1, h2⟩ := Bool.and_eq_true_iff.mp h
  obtain ⟨y0, r, p, rfl, rfl⟩ := andOf_ e1
  exact ⟨_, _, _, _, rfl, h1, h2⟩
theorem and_t {a b : E} {x : Expr} (ha : Snd U a) (hb : Snd U b) (O : XOk C U X) (h : Dt.tAnd C .And x (chkT md a) (chkT md b) = true) : PW X x (tDT md W (evT U (.and a b))) := by
  obtain ⟨x0, y0, r, p, rfl, h1, h2⟩ := tAnd_ h
  refine PW.imp (pw_and (ha.t (W := W) O h1).1 (tail_w (hb.t (W := W) O h2))) fun σ H Q ⟨en, ts, R, P⟩ => ⟨en, ts, R, ?_⟩
  rw [show evT U (.and a b) en = (evT U a en).bind fun c σ => if c then evT U b σ else .ok false σ by rw [evT]] at P
  refine P.bind.mono fun c en' _ P2 H' R' => ?_
  cases c with
  | true => exact ⟨en', ts, R', P2⟩
  | false => exact P2 _ R'
theorem or_t {a b : E} {x : Expr} (ha : Snd U a) (hb : Snd U b) (O : XOk C U X) (h : Dt.tAnd C .Or x (chkT md a) (chkT md b) = true) : PW X x (tDT md W (evT U (.or a b))) := by
  obtain ⟨x0, y0, r, p, rfl, h1, h2⟩ := tAnd_ h
  refine PW.imp (pw_or (ha.t (W := W) O h1).1 (tail_w (hb.t (W := W) O h2))) fun σ H Q ⟨en, ts, R, P⟩ => ⟨en, ts, R, ?_⟩
  rw [show evT U (.or a b) en = (evT U a en).bind fun c σ => if c then .ok true σ else evT U b σ by rw [evT]] at P
  refine P.bind.mono fun c en' _ P2 H' R' => ?_
  cases c with
  | true => exact P2 _ R'
  | false => exact ⟨en', ts, R', P2⟩
theorem not_t {a : E} {x : Expr} (ha : Snd U a) (O : XOk C U X) (h : Dt.tNot C x (chkT md a) = true) : PT X x (tDT md W (evT U (.not a))) ∧ isBO x = false := by
  unfold Dt.tNot at h
  split at h
  case h_2 => cases h
  refine ⟨PT.imp (pt_not (ha.t (W := W) O h).1) fun σ H Q ⟨en, ts, R, P⟩ => ⟨en, ts, R, ?_⟩, rfl⟩
  rw [show evT U (.not a) en = (evT U a en).bind fun c σ => .ok (!c) σ by rw [evT]] at P
  exact P.bind.mono fun c en' _ P2 H' R' => P2 _ R'
theorem plain_bo {x : Expr} (h : plainT x = true) : isBO x = false := by
  cases x <;> first | rfl | cases h
theorem tFlat_ {o : Option Md} (h : tFlat o = true) : ∃ m, o = some m ∧ flatM m = true := by
  cases o with
  | none => cases h
  | some m => exact ⟨m, rfl, h⟩
theorem op_t {o : Op} {fr : Bool} {as : E} {x : Expr} (hl : Snd U as) (O : XOk C U X) (h : Dt.tOp C o fr x (chkL md as) = true) : PT X x (tDT md W (evT U (.op o fr as))) ∧ isBO x = false := by
  unfold Dt.tOp at h
  split at h
  · rename_i hc
    simp only [Bool.and_eq_true, Bool.not_eq_true'] at h
    obtain ⟨⟨rfl, h2⟩, h3⟩ := h
    obtain ⟨m, h2⟩ := Option.isSome_iff_exists.mp h2
    unfold kOp at h2
    split at h2
    case h_2 => cases h2
    rename_i es e1
    split at h2
    case h_2 => cases h2
    rename_i ms e2
    split at h2
    case isFalse => cases h2
    rename_i fl
    obtain ⟨tes, T, imp, _⟩ := hl.l (W := W) O e2
    exact ⟨cmp_test O e1 hc fl T imp, h3⟩
  · obtain ⟨h1, h2⟩ := Bool.and_eq_true_iff.mp h
    obtain ⟨m, h2⟩ := Option.isSome_iff_exists.mp h2
    obtain ⟨rfl, pe⟩ := op_e (W := W) hl O h2
    exact ⟨t_gen pe (by cases fr <;> rfl) h1 (evT_gen rfl), plain_bo h1⟩
/-! ### lists -/
theorem cons_l {a r : E} {es : List Expr} {ms : List Md} (ha : Snd U a) (hr : Snd U r) (O : XOk C U X) (h : lCons C md (pkI a) es (chkE md a) (chkL md r) = some ms) :
    ∃ tes, PEs X es tes ∧ (∀ σ H Q, tDL md W (evL U (.cons a r)) (.cons a r) ms σ H Q → chain tes σ H Q) ∧ ∀ σ en vs ds tr, Ops md σ en (.cons a r) vs ds ms tr → ds.length = es.length := by
  unfold lCons at h
  split at h
  case h_2 => cases h
  rename_i x xs
  split at h
  case isFalse => cases h
  rename_i ns
  split at h
  case h_2 => cases h
  rename_i m ms' e1 e2
  cases h
  obtain ⟨tes, T, imp, hel⟩ := hr.l (W := W) O e2
  have hlen : ∀ σ en vs ds tr, Ops md σ en (.cons a r) vs ds (m :: ms') tr → ds.length = (x :: xs).length := by
    intro σ en vs ds tr o
    cases o with
    | pk _ _ _ o => rw [List.length_cons, List.length_cons, hel _ _ _ _ _ o]
    | lnt _ _ _ o => rw [List.length_cons, List.length_cons, hel _ _ _ _ _ o]
    | tmp _ o => rw [List.length_cons, List.length_cons, hel _ _ _ _ _ o]
  cases hp : pkI a with
  | some i =>
    rw [hp] at e1
    simp only at e1
    unfold chkPk at e1
    split at e1
    case h_2 => cases e1
    split at e1
    case isFalse => cases e1
    rename_i y p ok
    obtain ⟨k1, k2, k3, k4⟩ := okN_ O ok
    refine ⟨tVar i :: tes, .cons ns mo_tVar (pe_var k1 k2 k3 k4) T, fun σ H Q ⟨en, ts, R, P⟩ => ?_, hlen⟩
    have hev : evL U (.cons a r) en = if (rdS en i).isSome then (evL U r en).bind fun ds σ => (ofO (rdS σ i) σ).bind fun d σ => .ok (d :: ds) σ else .bad := by
      cases a <;> first | (cases hp; rw [evL]) | exact nomatch (show none = some i from hp)
    rw [hev] at P
    by_cases hs : (rdS en i).isSome = true
    case neg => rw [if_neg hs] at P; exact P.elim
    rw [if_pos hs] at P
    obtain ⟨d0, e0⟩ := Option.isSome_iff_exists.mp hs
    obtain ⟨v, m', rs, q1, _⟩ := R.get e0
    refine ⟨v, q1, imp σ H _ ⟨en, ts, R, P.bind.mono fun ds en' _ P2 vs H' tr R' o => ?_⟩⟩
    obtain ⟨d, e3, P3⟩ := P2.bind.ofO
    refine P3 _ H' tr R' ?_
    cases a <;> first | (cases hp; first | exact .pk q1 e3 e1 o | exact .lnt q1 e3 e1 o) | exact nomatch (show none = some i from hp)
  | none =>
    rw [hp] at e1
    simp only at e1
    refine ⟨_ :: tes, .cons ns mo_tD (ha.e (W := W) O e1) T, fun σ H Q ⟨en, ts, R, P⟩ => ⟨en, ts, R, ?_⟩, hlen⟩
    rw [evL_cons hp] at P
    refine P.bind.mono fun d en' _ P2 v H' R' => ?_
    refine imp σ H' _ ⟨en', (v, d, m) :: ts, R', (Post.more [(v, d, m)] P2.bind).mono fun ds en2 _ P3 vs H2 tr R2 o => ?_⟩
    exact P3 (v :: vs) H2 ((v, d, m) :: tr) (R2.permT perm_mid) (.tmp (pkI_no hp) o)
end
/-- the checker is sound -/
theorem snd (U : Ev) (a : E) : Snd U a := by
  have nT : ∀ {md : List Md} {a : E} {C : Ck} {x : Expr} {p : Prop}, chkT md a C x = false → chkT md a C x = true → p := fun h k => by rw [h] at k; cases k
  induction a with
  | var i =>
    refine ⟨fun O h => ?_, fun {C X md W x} O h => ?_, fun O h => ?_⟩
    · rw [chkE] at h
      obtain ⟨rfl, q⟩ := var_e O h
      exact q
    · rw [chkT] at h
      obtain ⟨h1, h2⟩ := Bool.and_eq_true_iff.mp h
      obtain ⟨m, h3, f⟩ := tFlat_ h2
      obtain ⟨rfl, q⟩ := var_e (W := W) O h3
      exact ⟨t_gen q f h1 (evT_gen rfl), fun z => nomatch (plain_bo h1).symm.trans z⟩
    · rw [chkL] at h <;> first | cases h | (intros; rename_i q; cases q)
  | bl b =>
    have pe : ∀ {C : Ck} {X : Cx} {md : List Md} {W : WX} {x : Expr} {m : Md}, kBl b x = some m → m = .F ∧ PE X x (tD md .F W (evE U (.bl b))) := fun {C X md W x m} h => by
      unfold kBl at h
      split at h
      case h_2 => cases h
      split at h
      case isFalse => cases h
      rename_i e
      subst e
      cases h
      exact ⟨rfl, con_e pe_bl (fun σ => by rw [evE]) fun H Z => .bl _⟩
    refine ⟨fun {C X md W x m} O h => ?_, fun {C X md W x} O h => ?_, fun O h => ?_⟩
    · rw [chkE] at h
      obtain ⟨rfl, q⟩ := pe (C := C) (X := X) (md := md) (W := W) h
      exact q
    · rw [chkT] at h
      obtain ⟨h1, h2⟩ := Bool.and_eq_true_iff.mp h
      obtain ⟨m, h3, f⟩ := tFlat_ h2
      obtain ⟨rfl, q⟩ := pe (C := C) (X := X) (md := md) (W := W) h3
      exact ⟨t_gen q f h1 (evT_gen rfl), fun z => nomatch (plain_bo h1).symm.trans z⟩
    · rw [chkL] at h <;> first | cases h | (intros; rename_i q; cases q)
  | non =>
    refine ⟨fun O h => ?_, fun O h => ?_, fun O h => ?_⟩
    · rw [chkE] at h
      unfold kNon at h
      split at h
      · cases h
        exact con_e pe_non (fun σ => by rw [evE]) fun H Z => .non
      · cases h
    · rw [chkT] at h <;> first | cases h | (intros; rename_i q; cases q)
    · rw [chkL] at h <;> first | cases h | (intros; rename_i q; cases q)
  | int i =>
    refine ⟨fun O h => ?_, fun O h => ?_, fun O h => ?_⟩
    · rw [chkE] at h
      unfold kInt at h
      split at h
      · split at h
        · rename_i e
          subst e
          cases h
          exact con_e pe_int (fun σ => by rw [evE]) fun H Z => .int _
        · cases h
      · cases h
    · rw [chkT] at h <;> first | cases h | (intros; rename_i q; cases q)
    · rw [chkL] at h <;> first | cases h | (intros; rename_i q; cases q)
  | str s =>
    refine ⟨fun O h => ?_, fun O h => ?_, fun O h => ?_⟩
    · rw [chkE] at h
      unfold kStr at h
      split at h
      · split at h
        · rename_i e
          subst e
          cases h
          exact con_e pe_str (fun σ => by rw [evE]) fun H Z => .str _
        · cases h
      · cases h
    · rw [chkT] at h <;> first | cases h | (intros; rename_i q; cases q)
    · rw [chkL] at h <;> first | cases h | (intros; rename_i q; cases q)
  | op o fr as ih =>
    refine ⟨fun O h => ?_, fun {C X md W x} O h => ?_, fun O h => ?_⟩
    · rw [chkE] at h
      obtain ⟨rfl, q⟩ := op_e ih O h
      exact q
    · rw [chkT] at h
      obtain ⟨q, b⟩ := op_t (W := W) ih O h
      exact ⟨q, fun z => nomatch b.symm.trans z⟩
    · rw [chkL] at h <;> first | cases h | (intros; rename_i q; cases q)
  | and a b iha ihb =>
    refine ⟨fun O h => ?_, fun {C X md W x} O h => ?_, fun O h => ?_⟩
    · rw [chkE] at h
      obtain ⟨rfl, q⟩ := and_e iha ihb O h
      exact q
    · rw [chkT] at h
      have q := and_t (W := W) iha ihb O h
      exact ⟨q.pt, fun _ => q⟩
    · rw [chkL] at h <;> first | cases h | (intros; rename_i q; cases q)
  | or a b iha ihb =>
    refine ⟨fun O h => ?_, fun {C X md W x} O h => ?_, fun O h => ?_⟩
    · rw [chkE] at h
      obtain ⟨rfl, q⟩ := or_e iha ihb O h
      exact q
    · rw [chkT] at h
      have q := or_t (W := W) iha ihb O h
      exact ⟨q.pt, fun _ => q⟩
    · rw [chkL] at h <;> first | cases h | (intros; rename_i q; cases q)
  | not a iha =>
    refine ⟨fun O h => ?_, fun {C X md W x} O h => ?_, fun O h => ?_⟩
    · rw [chkE] at h
      obtain ⟨rfl, q⟩ := not_e iha O h
      exact q
    · rw [chkT] at h
      obtain ⟨q, b⟩ := not_t (W := W) iha O h
      exact ⟨q, fun z => nomatch b.symm.trans z⟩
    · rw [chkL] at h <;> first | cases h | (intros; rename_i q; cases q)
  | ite t a b iht iha ihb =>
    refine ⟨fun O h => ?_, fun O h => ?_, fun O h => ?_⟩
    · rw [chkE] at h
      exact ite_e iht iha ihb O h
    · rw [chkT] at h <;> first | cases h | (intros; rename_i q; cases q)
    · rw [chkL] at h <;> first | cases h | (intros; rename_i q; cases q)
  | tup as ih =>
    refine ⟨fun O h => ?_, fun O h => ?_, fun O h => ?_⟩
    · rw [chkE] at h
      obtain ⟨rfl, q⟩ := tup_e ih O h
      exact q
    · rw [chkT] at h <;> first | cases h | (intros; rename_i q; cases q)
    · rw [chkL] at h <;> first | cases h | (intros; rename_i q; cases q)
  | lst m as ih =>
    refine ⟨fun O h => ?_, fun O h => ?_, fun O h => ?_⟩
    · rw [chkE] at h
      obtain ⟨rfl, q⟩ := lst_e ih O h
      exact q
    · rw [chkT] at h <;> first | cases h | (intros; rename_i q; cases q)
    · rw [chkL] at h <;> first | cases h | (intros; rename_i q; cases q)
  | dsp ks as ih =>
    refine ⟨fun O h => ?_, fun O h => ?_, fun O h => ?_⟩
    · rw [chkE] at h
      obtain ⟨rfl, q⟩ := dsp_e ih O h
      exact q
    · rw [chkT] at h <;> first | cases h | (intros; rename_i q; cases q)
    · rw [chkL] at h <;> first | cases h | (intros; rename_i q; cases q)
  | call f as ih =>
    refine ⟨fun O h => ?_, fun {C X md W x} O h => ?_, fun O h => ?_⟩
    · rw [chkE] at h
      exact call_e ih O h
    · rw [chkT] at h
      obtain ⟨h1, h2⟩ := Bool.and_eq_true_iff.mp h
      obtain ⟨m, h3, f⟩ := tFlat_ h2
      exact ⟨t_gen (call_e (W := W) ih O h3) f h1 (evT_gen rfl), fun z => nomatch (plain_bo h1).symm.trans z⟩
    · rw [chkL] at h <;> first | cases h | (intros; rename_i q; cases q)
  | «mut» o i as ih =>
    refine ⟨fun O h => ?_, fun O h => ?_, fun O h => ?_⟩
    · cases o with
      | append =>
        rw [chkE] at h
        obtain ⟨rfl, q⟩ := append_e ih O h
        exact q
      | extend =>
        rw [chkE] at h
        obtain ⟨rfl, q⟩ := extend_e ih O h
        exact q
      | _ => rw [chkE] at h <;> first | cases h | (intros; rename_i q; cases q)
    · rw [chkT] at h <;> first | cases h | (intros; rename_i q; cases q)
    · rw [chkL] at h <;> first | cases h | (intros; rename_i q; cases q)
  | lc own tg ik it c m b ihit ihc ihb =>
    refine ⟨fun O h => ?_, fun O h => ?_, fun O h => ?_⟩
    · obtain ⟨rfl, q, _⟩ := lc_rules ihit ihc ihb O h
      exact q
    · rw [chkT] at h <;> first | cases h | (intros; rename_i q; cases q)
    · rw [chkL] at h <;> first | cases h | (intros; rename_i q; cases q)
  | lc2 own tg ik it c own1 tg1 ik1 it1 c1 m b ihit ihc ihit1 ihc1 ihb =>
    refine ⟨fun O h => ?_, fun O h => ?_, fun O h => ?_⟩
    · obtain ⟨rfl, q, _⟩ := lc2_rules ihit ihc ihit1 ihc1 ihb O h
      exact q
    · rw [chkT] at h <;> first | cases h | (intros; rename_i q; cases q)
    · rw [chkL] at h <;> first | cases h | (intros; rename_i q; cases q)
  | dc own tg ik it c k b ihit ihc ihk ihb =>
    refine ⟨fun O h => ?_, fun O h => ?_, fun O h => ?_⟩
    · obtain ⟨rfl, q⟩ := dc_rules ihit ihc ihk ihb O h
      exact q
    · rw [chkT] at h <;> first | cases h | (intros; rename_i q; cases q)
    · rw [chkL] at h <;> first | cases h | (intros; rename_i q; cases q)
  | nil =>
    refine ⟨fun O h => ?_, fun O h => ?_, fun {C X md W es ms} O h => ?_⟩
    · rw [chkE] at h <;> first | cases h | (intros; rename_i q; cases q)
    · rw [chkT] at h <;> first | cases h | (intros; rename_i q; cases q)
    · rw [chkL] at h
      unfold lNil at h
      split at h
      · cases h
        refine ⟨[], .nil, fun σ H Q ⟨en, ts, R, P⟩ => ?_, fun σ en vs ds tr o => by cases o; rfl⟩
        rw [show evL U .nil en = .ok [] en by rw [evL]] at P
        exact P [] H [] R .nil
      · cases h
  | cons a r iha ihr =>
    refine ⟨fun O h => ?_, fun O h => ?_, fun O h => ?_⟩
    · rw [chkE] at h <;> first | cases h | (intros; rename_i q; cases q)
    · rw [chkT] at h <;> first | cases h | (intros; rename_i q; cases q)
    · rw [chkL] at h
      exact cons_l iha ihr O h
  | pk i =>
    refine ⟨fun O h => ?_, fun O h => ?_, fun O h => ?_⟩
    · rw [chkE] at h <;> first | cases h | (intros; rename_i q; cases q)
    · rw [chkT] at h <;> first | cases h | (intros; rename_i q; cases q)
    · rw [chkL] at h <;> first | cases h | (intros; rename_i q; cases q)
  | lnt i =>
    refine ⟨fun O h => ?_, fun O h => ?_, fun O h => ?_⟩
    · rw [chkE] at h <;> first | cases h | (intros; rename_i q; cases q)
    · rw [chkT] at h <;> first | cases h | (intros; rename_i q; cases q)
    · rw [chkL] at h <;> first | cases h | (intros; rename_i q; cases q)
  | dnew t =>
    refine ⟨fun O h => ?_, fun O h => ?_, fun O h => ?_⟩
    · rw [chkE] at h <;> first | cases h | (intros; rename_i q; cases q)
    · rw [chkT] at h <;> first | cases h | (intros; rename_i q; cases q)
    · rw [chkL] at h <;> first | cases h | (intros; rename_i q; cases q)
  | mutI o i k as ihk ih =>
    refine ⟨fun O h => ?_, fun O h => ?_, fun O h => ?_⟩
    · rw [chkE] at h <;> first | cases h | (intros; rename_i q; cases q)
    · rw [chkT] at h <;> first | cases h | (intros; rename_i q; cases q)
    · rw [chkL] at h <;> first | cases h | (intros; rename_i q; cases q)
  | fld i k =>
    refine ⟨fun O h => ?_, fun O h => ?_, fun O h => ?_⟩
    · rw [chkE] at h <;> first | cases h | (intros; rename_i q; cases q)
    · rw [chkT] at h <;> first | cases h | (intros; rename_i q; cases q)
    · rw [chkL] at h <;> first | cases h | (intros; rename_i q; cases q)
end Dt
end
section
set_option Elab.async false
set_option linter.all false
set_option maxRecDepth 100000
set_option maxHeartbeats 4000000
/-! Statements: readings and small rules. -/
namespace Dt
open PySem PySem.Spec PyProof.Rows L2
def Keep (kp : List Nat) (σ σ' : L2.St) : Prop := ∀ j ∈ kp, σ'[j]? = σ[j]?
theorem Keep.refl {kp : List Nat} {σ : L2.St} : Keep kp σ σ := fun _ _ => rfl
theorem Keep.trans {kp : List Nat} {σ σ' σ'' : L2.St} (h : Keep kp σ σ') (k : Keep kp σ' σ'') : Keep kp σ σ'' := fun j m => (k j m).trans (h j m)
theorem Keep.agr {kp js : List Nat} {σ σ' : L2.St} (h : Agr js σ σ') (n : ∀ j ∈ kp, j ∉ js) : Keep kp σ σ' := fun j m => h.2 j (n j m)
/-- what a body's place fixes -/
structure Bx where
  rm : Md
  kp : List Nat
  md0 : List Md
  lp : Option (List Md)
def KeepM (B : Bx) (md : List Md) : Prop := ∀ j ∈ B.kp, md[j]? = B.md0[j]?
def PostS (B : Bx) (D0 : Ends) (σ : L2.St) (ts : List Root) (nxm : Option (List Md)) (x : SOut) : Prop := match x with
  | .nx en => (match nxm with
    | some md => ∀ σ' H', Keep B.kp σ σ' → RepS md σ' en ts H' → D0.nx σ' H'
    | none => True)
  | .ret d en => ∀ v σ' H' md, Keep B.kp σ σ' → KeepM B md → RepS md σ' en ((v, d, B.rm) :: ts) H' → D0.rt v H'
  | .brk en => ∃ l, B.lp = some l ∧ ∀ σ' H', Keep B.kp σ σ' → RepS l σ' en ts H' → D0.bk σ' H'
  | .cnt en => ∃ l, B.lp = some l ∧ ∀ σ' H', Keep B.kp σ σ' → RepS l σ' en ts H' → D0.ct σ' H'
  | .exc _ _ _ => False
  | .bad => False
def tS (B : Bx) (md : List Md) (nxm : Option (List Md)) (m : Sl → SOut) : TS := fun D0 σ H => ∃ en ts, RepS md σ en ts H ∧ PostS B D0 σ ts nxm (m en)
section
variable {B : Bx} {D0 : Ends} {σ σ' : L2.St} {ts : List Root} {nxm : Option (List Md)} {x : SOut}
theorem PostS.keep (k : Keep B.kp σ σ') (h : PostS B D0 σ ts nxm x) : PostS B D0 σ' ts nxm x := by
  cases x with
  | nx en =>
    cases nxm with
    | none => trivial
    | some md => exact fun σ2 H2 k2 r => h σ2 H2 (k.trans k2) r
  | ret d en => exact fun v σ2 H2 md k2 m r => h v σ2 H2 md (k.trans k2) m r
  | brk en =>
    obtain ⟨l, e, q⟩ := h
    exact ⟨l, e, fun σ2 H2 k2 r => q σ2 H2 (k.trans k2) r⟩
  | cnt en =>
    obtain ⟨l, e, q⟩ := h
    exact ⟨l, e, fun σ2 H2 k2 r => q σ2 H2 (k.trans k2) r⟩
  | exc _ _ _ => exact h
  | bad => exact h
theorem PostS.ofE {α : Type} {md : List Md} {W : WX} {o : Out α} {f : α → Sl → SOut} (h : PostS B D0 σ ts nxm (SOut.ofE o f)) : Post md W σ ts o fun a en => PostS B D0 σ ts nxm (f a en) := by
  cases o with
  | ok a en => exact h
  | exc c fs en => exact h
  | bad => exact h
end
theorem ofE_bind {α β : Type} (x : Out α) (f : α → Sl → Out β) (g : β → Sl → SOut) : SOut.ofE (x.bind f) g = SOut.ofE x fun a σ => SOut.ofE (f a σ) g := by
  cases x <;> rfl
section
variable {C : Ck} {U : Ev} {X : Cx} {md : List Md} {B : Bx}
/-! ### stores -/
def notComp : Expr → Bool
  | .ListComp _ _ _ _ => false
  | .SetComp _ _ _ _ => false
  | .DictComp _ _ _ _ _ => false
  | _ => true
theorem sw_no {x : Expr} {t : Option Expr} {l : Nat} {env : Env} (h : notComp x = true) : swapsWith x t l env = pure false := by
  cases x <;> first | rfl | cases h
theorem sw_sub {x o i : Expr} {p : Pos} {l : Nat} {env : Env} : swapsWith x (some (.Subscript o i p)) l env = pure false := by
  cases x <;> rfl
/-- does a store swap? -/
def swB (C : Ck) (x : Expr) (y : Str) (py : Pos) : Bool := match x with
  | .ListComp _ _ scope p => (match C.sc.kind with | .function => true | _ => false) && (match C.sc.names.lookup y with | some .local => true | _ => false) && py.line == p.line && !(scope.names.any fun q => q.1 == y && (q.2 == .local || q.2 == .cell))
  | _ => false
theorem sw_lc (O : XOk C U X) {elt : Expr} {gs : List Comprehension} {scope : Scope} {p py : Pos} {y : Str} {l : Nat} (hk : C.sc.kind = .function) : swapsWith (.ListComp elt gs scope p) (some (.Name y py)) l X.env = pure (swB C (.ListComp elt gs scope p) y py) := by
  have hb : X.env.blockKind = .function := by
    unfold Env.blockKind
    rw [O.sc, hk]
    rfl
  have ky : X.env.kindOf y = C.sc.names.lookup y := by
    show X.env.scope.names.lookup y = _
    rw [O.sc]
  unfold swapsWith swB
  simp only [hb, ky, hk, Expr.pos]
  cases C.sc.names.lookup y with
  | none => rfl
  | some k => cases k <;> rfl
/-- name = e, in one rule -/
theorem set_any (O : XOk C U X) {i : Nat} {y : Str} {py pos : Pos} {x : Expr} {t : TE} (hk : C.sc.kind = .function) (hn : okT C i y = true) (nc : notComp x = true ∨ ∃ elt gs scope p, x = .ListComp elt gs scope p) (pe : PE X x t) (so : (∃ elt gs scope p, x = .ListComp elt gs scope p) → SetOk X x t) :
    PS X (.Assign [.Name y py] x pos) (tAsg t (gName i)) := by
  obtain ⟨h1, h2⟩ := Bool.and_eq_true_iff.mp (show (decide (C.N[i]? = some y) && sto C y) = true from hn)
  have h1 : X.N[i]? = some y := by rw [O.N]; exact of_decide_eq_true h1
  obtain ⟨l, f⟩ := O.sto h2
  rcases nc with nc | ⟨elt, gs, scope, p, rfl⟩
  · exact ps_set O.nd h1 l pe (sw_no nc) f
  · have e := sw_lc O (elt := elt) (gs := gs) (scope := scope) (p := p) (py := py) (y := y) (l := pos.line) hk
    cases b : swB C (.ListComp elt gs scope p) y py with
    | false =>
      rw [b] at e
      exact ps_set O.nd h1 l pe e f
    | true =>
      rw [b] at e
      have lo : X.env.scope.names.lookup y = some .local := by
        rw [O.sc]
        unfold swB at b
        simp only [Bool.and_eq_true] at b
        have b := b.1.1.2
        split at b
        · assumption
        · cases b
      exact so ⟨_, _, _, _, rfl⟩ i y py pos h1 lo e
/-! ### stores into what a slot holds -/
def rSetA (K : PySem.W.Frag) : TSet := fun o i v H Q => rSetL o i v H Q ∨ rSetD o i v H Q
theorem set_both (hu : X.A.units + 1 < cLine) : PSet X (rSetA X.K) := by
  intro pins s σ H o i v ov iv u Q I ro ri rv q
  rcases q with q | q
  · exact set_list pins s σ H o i v ov iv u Q I ro ri rv q
  · exact set_dict hu pins s σ H o i v ov iv u Q I ro ri rv q
theorem slot_own {σ : L2.St} {en : Sl} {ts : List Root} {H : Hp} {i : Nat} {m : Md} {d : D} (R : RepS md σ en ts H) (e : rdS en i = some d) (hm : md[i]? = some (.O m)) : ∃ a rs', σ[i]? = some (some (.ref a)) ∧ Rep ((.ref a, d, .O m) :: (rs' ++ ts)) H ∧
    ∀ d' ts' H', Rep ((.ref a, d', .O m) :: (rs' ++ ts')) H' → RepS md σ (en.set i (some d')) ts' H' := by
  obtain ⟨v, m', rs', h1, h2, h3, h4⟩ := R.open e
  rw [hm] at h2
  cases h2
  obtain ⟨Z, fp, z⟩ := id h3
  cases id z.own with
  | cons w t =>
    obtain ⟨a, fs, rfl, _⟩ := w
    exact ⟨a, rs', h1, h3, h4⟩
theorem rep_dict {H : Hp} {a : Addr} {es : List (D × D)} {rs : List Root} {y : Key} (h : Rep ((.ref a, .dict es, .O .F) :: rs) H) (ok : kindOk es (.k y) = true) : ∃ kvs, H a = some (.dK kvs) ∧ kvs.length = es.length := by
  have h2 : Rep ((.non, .none, .F) :: (.ref a, .dict es, .O .F) :: rs) H := h.cons_rd fun Z => .non
  obtain ⟨kvs, e1, e2, _⟩ := rep_dput h2 ok
  exact ⟨kvs, e1, e2⟩
/-- what a store asks, by the meaning -/
theorem put_step {σ : L2.St} {en : Sl} {ts : List Root} {H : Hp} {i : Nat} {a : Addr} {kv y : V} {r0 kd d x r1 : D} {km : Md} {Q : Hp → Prop} (s1 : σ[i]? = some (some (.ref a))) (hm : md[i]? = some (.O .F)) (fk : flatM km = true)
    (R : RepS md σ en ((kv, kd, km) :: (y, d, .F) :: ts) H) (e : rdS en i = some r0) (h : mopF .set r0 [kd, d] = some (x, r1)) (q : ∀ H', RepS md σ (en.set i (some r1)) ts H' → Q H') : rSetA X.K (.ref a) kv y H Q := by
  have vk : ∃ Z, Vw H Z kv kd := R.vw fk
  obtain ⟨Z, vk⟩ := vk
  obtain ⟨a', rs', s2, raw, close⟩ := slot_own R.tail e hm
  rw [s1] at s2
  cases s2
  have raw2 : Rep ((y, d, .F) :: (.ref a, r0, .O .F) :: (rs' ++ ts)) H := raw.perm ((List.Perm.cons _ perm_mid).trans (.swap _ _ _))
  unfold mopF at h
  split at h <;> first | contradiction | skip
  · -- a list
    rename_i xs z d0 e1 e2
    cases e2
    obtain ⟨j, hj, h⟩ := Option.map_eq_some_iff.mp h
    cases h
    cases vw_int vk
    have hlt : ∃ dj, xs[j]? = some dj := by
      have : j < xs.length := (ixN_seq (show ixN xs.length z = some j from hj)).2.1
      exact ⟨xs[j], List.getElem?_eq_getElem this⟩
    obtain ⟨dj, hdj⟩ := hlt
    obtain ⟨us, vj, h1, h2, h3, h4⟩ := rep_setAt raw2 hdj
    exact .inl ⟨a, us, z, j, rfl, rfl, h1, by rw [h2]; exact hj, q _ (close _ _ _ h4)⟩
  · rename_i es k d0 e1 e2
    cases e2
    obtain ⟨kk, hk, h⟩ := Option.bind_eq_some_iff.mp h
    split at h
    case isFalse => cases h
    rename_i hz
    cases h
    obtain ⟨rfl, rfl⟩ := toK_v vk hk
    obtain ⟨kvs, h1, h2, h3⟩ := rep_dput raw2 hz.2
    exact .inr ⟨a, _, rfl, .k h1 (by rw [h2]; exact hz.1), q _ (close _ _ _ h3)⟩
/-- l[k] += n -/
def rGetA (K : PySem.W.Frag) : V → V → Hp → VK → Prop := fun o i H Q => ∃ p xs k v, o = .ref p ∧ i = .int k ∧ H p = some (.lst xs) ∧ atI xs k = some v ∧ Q v H
theorem get_lst : PGet X (rGetA X.K) := by
  intro pins s σ H o i ov iv Q I ro ri ⟨p, xs, k, z, e1, e2, hq, he, q⟩
  subst e1 e2
  cases ro
  obtain ⟨t, rfl⟩ := ri
  obtain ⟨its, n, r, ho, hz⟩ := I.lst hq
  obtain ⟨j, h1, h2, h3, h4, h5⟩ := atI_get he
  obtain ⟨w, ew, rw'⟩ := r.get h2
  have hl := r.length
  have hn := line63
  have pl : s.heap.IsList p its.toArray := ⟨_, ho, rfl, _, rfl⟩
  have fin : EP X pins σ Q w s := ⟨z, H, I, rw', q⟩
  by_cases h0 : 0 ≤ k
  · have hj : k.toNat = j := by
      rw [seqIndex_of h0 h5] at h1
      exact Option.some.inj h1
    exact wpAny_getItem_list pl h0 (by omega) (by rw [hj]; simpa using ew) fin
  · have hj : (k + (its.toArray.size : Int)).toNat = j := by
      rw [seqIndex_neg (by omega) h4] at h1
      rw [List.size_toArray, ← hl]
      exact Option.some.inj h1
    exact wpAny_getItem_list_neg pl (by omega) (by rw [List.size_toArray] <;> omega) (by omega) (by rw [hj]; simpa using ew) fin
end
end Dt
end
section
set_option Elab.async false
set_option linter.all false
set_option maxRecDepth 100000
set_option maxHeartbeats 4000000
/-! Statements: the checker. -/
namespace Dt
open PySem PySem.Spec PyProof.Rows L2
def fitTo (want : Option Md) (m : Md) : Bool := match want with
  | some .F => true
  | some w => decide (w = m)
  | none => false
def isFn (C : Ck) : Bool := match C.sc.kind with
  | .function => true
  | _ => false
def isLC : Expr → Bool
  | .ListComp _ _ _ _ => true
  | _ => false
def isLcE : E → Bool
  | .lc _ _ _ _ _ _ _ => true
  | .lc2 _ _ _ _ _ _ _ _ _ _ _ _ => true
  | _ => false
def notTup : Expr → Bool
  | .Tuple _ _ _ => false
  | _ => true
def isLoc (C : Ck) (x : Str) : Bool := match C.sc.names.lookup x with
  | some .local => true
  | _ => false
def isAtom : E → Bool
  | .int _ => true
  | .var _ => true
  | _ => false
abbrev R := Option (Option (List Md))
abbrev KB := Bx → Ck → List Md → List Stmt → R
def k1Set (B : Bx) (C : Ck) (md : List Md) (i : Nat) (lcE : Bool) (st : Stmt) (ke : KE) : R := match st with
  | .Assign [.Name y _] x _ => if okT C i y && decide (i ∉ B.kp) && isFn C && (notComp x || (lcE && isLC x)) then (match ke C x with
    | some m => if fitTo (md[i]?) m then some (some md) else none
    | none => none) else none
  | _ => none
def k1Par (B : Bx) (C : Ck) (md : List Md) (tg : Tg) (n : Bool) (st : Stmt) (kl : KL) : R := match tg, st with
  | .cons (.v i) (.cons (.v j) .nil), .Assign [.Tuple [.Name y1 p1, .Name y2 p2] _ _] (.Tuple [a, b] _ _) _ =>
    if decide (C.N[i]? = some y1) && decide (C.N[j]? = some y2) && decide (i ≠ j) && decide (y1 ≠ y2) && isLoc C y1 && isLoc C y2 && decide (i ∉ B.kp) && decide (j ∉ B.kp) && p2.line == p1.line && !([a, b].all (foldedForSure 8)) && !([a, b].all (constantsAlone 8)) && nostar a && nostar b && isFn C && n then (match kl C [a, b] with
      | some [m1, m2] => if fitTo (md[i]?) m1 && fitTo (md[j]?) m2 then some (some md) else none
      | _ => none) else none
  | _, _ => none
def k1Unp (B : Bx) (C : Ck) (md : List Md) (tg : Tg) (st : Stmt) (ke : KE) : R := match st with
  | .Assign [.Tuple es k p] x _ => if tgE C md tg (.Tuple es k p) && (tgs tg).all (fun j => decide (j ∉ B.kp)) && notComp x && notTup x && isFn C then (match ke C x with
    | some _ => some (some md)
    | none => none) else none
  | _ => none
def k1Put (C : Ck) (md : List Md) (i : Nat) (st : Stmt) (kk ke : KE) : R := match st with
  | .Assign [.Subscript (.Name y _) kx _] x _ => if okN C i y && decide (md[i]? = some (.O .F)) && noSl kx then (match ke C x, kk C kx with
    | some _, some mk => if flatM mk then some (some md) else none
    | _, _ => none) else none
  | _ => none
def k1Aug (C : Ck) (md : List Md) (i : Nat) (atm : Bool) (st : Stmt) (kk ke : KE) : R := match st with
  | .AugAssign (.Subscript (.Name y _) kx _) .Add x _ => if okN C i y && decide (md[i]? = some (.O .F)) && noSl kx && atm then (match kk C kx, ke C x with
    | some mk, some .F => if flatM mk then some (some md) else none
    | _, _ => none) else none
  | _ => none
def k1AugN (B : Bx) (C : Ck) (md : List Md) (i : Nat) (op : Operator) (st : Stmt) (ke : KE) : R := match st with
  | .AugAssign (.Name y _) o x _ => if decide (o = op) && okT C i y && okN C i y && decide (md[i]? = some .F) && decide (i ∉ B.kp) then (match ke C x with
    | some .F => some (some md)
    | _ => none) else none
  | _ => none
def k1Exp (C : Ck) (md : List Md) (st : Stmt) (ke : KE) : R := match st with
  | .Expr x _ => if notComp x then (match ke C x with
    | some _ => some (some md)
    | none => none) else none
  | _ => none
def k1Ret (B : Bx) (C : Ck) (st : Stmt) (ke : KE) : R := match st with
  | .Return (some x) _ => (match ke C x with
    | some m => if decide (m = B.rm) || decide (B.rm = .F) then some none else none
    | none => none)
  | _ => none
def k1RetN (B : Bx) (st : Stmt) : R := match st with
  | .Return none _ => if B.rm = .F then some none else none
  | _ => none
def joinR (a b : Option (List Md)) : R := match a, b with
  | none, r => some r
  | r, none => some r
  | some x, some y => if x = y then some (some x) else none
def k1Ite (B : Bx) (C : Ck) (md : List Md) (st : Stmt) (t : KT) (a b : KB) : R := match st with
  | .If c xs ys _ => if t C c then (match a B C md xs, b B C md ys with
    | some r1, some r2 => joinR r1 r2
    | _, _ => none) else none
  | _ => none
def k1For (B : Bx) (C : Ck) (md : List Md) (tg : Tg) (ik : Ik) (n : Bool) (st : Stmt) (l : KL) (b : KB) : R := match st with
  | .For t iter body [] _ => if n && tgE C md tg t && (tgs tg).all (fun j => decide (j ∉ B.kp)) then (match itArgs C ik t iter with
    | some es => (match l C es, b { B with lp := some md } C md body with
      | some _, some none => some (some md)
      | some _, some (some md') => if md' = md then some (some md) else none
      | _, _ => none)
    | none => none) else none
  | _ => none
def k1Whl (B : Bx) (C : Ck) (md : List Md) (st : Stmt) (t : KT) (b : KB) : R := match st with
  | .While c body [] _ => if t C c then (match b { B with lp := some md } C md body with
    | some none => some (some md)
    | some (some md') => if md' = md then some (some md) else none
    | none => none) else none
  | _ => none
def k1Brk (B : Bx) (md : List Md) (st : Stmt) : R := match st with
  | .Break _ => if B.lp = some md then some none else none
  | _ => none
def k1Cnt (B : Bx) (md : List Md) (st : Stmt) : R := match st with
  | .Continue _ => if B.lp = some md then some none else none
  | _ => none
def k1Rai (st : Stmt) : R := match st with
  | .Raise _ _ _ => some none
  | _ => none
def kNil (md : List Md) (sts : List Stmt) : R := match sts with
  | [] => some (some md)
  | _ => none
def kGhost (a : S) : Option (Nat × Option Md) := match a with
  | .frz i => some (i, none)
  | .fgt i m => some (i, some m)
  | _ => none
def kSeq (B : Bx) (C : Ck) (md : List Md) (g : Option (Nat × Option Md)) (sts : List Stmt) (a : Bx → Ck → List Md → Stmt → R) (b : KB) : R := match g with
  | some (i, o) => if i ∈ B.kp then none else b B C (md.set i (o.getD .F)) sts
  | none => (match sts with
    | st :: rest => (match a B C md st with
      | some (some md1) => b B C md1 rest
      | some none => some none
      | none => none)
    | [] => none)
mutual
def chk1 (a : S) (B : Bx) (C : Ck) (md : List Md) (st : Stmt) : R := match a with
  | .set i e => k1Set B C md i (isLcE e) st (chkE md e)
  | .par tg as => k1Par B C md tg (noPk as) st (chkL md as)
  | .unp tg e => k1Unp B C md tg st (chkE md e)
  | .put .set i k e => k1Put C md i st (chkE md k) (chkE md e)
  | .put .augAdd i k e => k1Aug C md i (isAtom e) st (chkE md k) (chkE md e)
  | .aug .add i e => k1AugN B C md i .Add st (chkE md e)
  | .aug .sub i e => k1AugN B C md i .Sub st (chkE md e)
  | .exp e => k1Exp C md st (chkE md e)
  | .ret e => k1Ret B C st (chkE md e)
  | .retN => k1RetN B st
  | .ite t a b => k1Ite B C md st (chkT md t) (chkB a) (chkB b)
  | .for tg ik it b => k1For B C md tg ik (noPk it) st (chkL md it) (chkB b)
  | .whl t b => k1Whl B C md st (chkT md t) (chkB b)
  | .brk => k1Brk B md st
  | .cnt => k1Cnt B md st
  | .raise _ _ => k1Rai st
  | _ => none
def chkB (a : S) (B : Bx) (C : Ck) (md : List Md) (sts : List Stmt) : R := match a with
  | .skip => kNil md sts
  | .seq a b => kSeq B C md (kGhost a) sts (chk1 a) (chkB b)
  | _ => none
end
end Dt
end
section
set_option Elab.async false
set_option linter.all false
set_option maxRecDepth 100000
set_option maxHeartbeats 4000000
/-! Statements: the checker is sound. -/
namespace Dt
open PySem PySem.Spec PyProof.Rows L2
abbrev W0 : WX := fun _ _ _ _ => False
theorem keep_set {kp : List Nat} {σ : L2.St} {i : Nat} {o : Option V} (h : i ∉ kp) : Keep kp σ (σ.set i o) := fun j m => List.getElem?_set_ne fun e => h (by subst e; exact m)
theorem RepS.fit {md : List Md} {σ : L2.St} {en : Sl} {ts : List Root} {H : Hp} {v : V} {d : D} {m : Md} {i : Nat} (h : RepS md σ en ((v, d, m) :: ts) H) (f : fitTo (md[i]?) m = true) : RepS md (σ.set i (some v)) (en.set i (some d)) ts H := by
  unfold fitTo at f
  split at f
  · exact h.freeze.set (by assumption)
  · rename_i w _ e
    have := of_decide_eq_true f
    subst this
    exact h.set e
  · cases f
section
variable {C : Ck} {U : Ev} {X : Cx} {md : List Md} {B : Bx} {st : Stmt} {nxm : Option (List Md)}
theorem set_s {i : Nat} {e : E} (O : XOk C U X) (h : k1Set B C md i (isLcE e) st (chkE md e) = some nxm) : nxm = some md ∧ PS X st (tS B md (some md) (evS U (.set i e))) := by
  unfold k1Set at h
  split at h
  case h_2 => cases h
  rename_i y py x pos
  split at h
  case isFalse => cases h
  rename_i hq
  simp only [Bool.and_eq_true, decide_eq_true_eq] at hq
  obtain ⟨⟨⟨k1, k2⟩, k3⟩, k4⟩ := hq
  split at h
  case h_2 => cases h
  rename_i m e1
  split at h
  case isFalse => cases h
  rename_i hf
  cases h
  have hk : C.sc.kind = .function := by
    unfold isFn at k3
    split at k3
    · assumption
    · cases k3
  have pe := (snd U e).e (W := W0) O e1
  refine ⟨rfl, PS.imp (set_any O hk k1 ?_ pe fun hx => ?_) fun D0 σ H w => ?_⟩
  · rcases Bool.or_eq_true_iff.mp k4 with k4 | k4
    · exact .inl k4
    · obtain ⟨_, k5⟩ := Bool.and_eq_true_iff.mp k4
      cases x <;> first | exact .inr ⟨_, _, _, _, rfl⟩ | cases k5
  · obtain ⟨elt, gs, scope, p, rfl⟩ := hx
    rcases Bool.or_eq_true_iff.mp k4 with k4 | k4
    · cases k4
    · obtain ⟨k5, _⟩ := Bool.and_eq_true_iff.mp k4
      cases e with
      | lc own tg ik it c m' b =>
        obtain ⟨rfl, _, so⟩ := lc_rules (W := W0) (snd U it) (snd U c) (snd U b) O e1
        exact so
      | lc2 own tg ik it c own1 tg1 ik1 it1 c1 m' b =>
        obtain ⟨rfl, _, so⟩ := lc2_rules (W := W0) (snd U it) (snd U c) (snd U it1) (snd U c1) (snd U b) O e1
        exact so
      | _ => cases k5
  · obtain ⟨en, ts, R, P⟩ := w
    rw [evS] at P
    refine ⟨en, ts, R, P.ofE.mono fun d en' _ P2 v H' R' => ?_⟩
    exact P2 _ _ (keep_set k2) (R'.fit hf)
theorem exp_s {e : E} (O : XOk C U X) (h : k1Exp C md st (chkE md e) = some nxm) : nxm = some md ∧ PS X st (tS B md (some md) (evS U (.exp e))) := by
  unfold k1Exp at h
  split at h
  case h_2 => cases h
  split at h
  case isFalse => cases h
  rename_i x pos nc
  split at h
  case h_2 => cases h
  rename_i m e1
  cases h
  refine ⟨rfl, PS.imp (ps_expr ((snd U e).e (W := W0) O e1) (sw_no nc)) fun D0 σ H ⟨en, ts, R, P⟩ => ⟨en, ts, R, ?_⟩⟩
  rw [evS] at P
  exact P.ofE.mono fun d en' _ P2 v H' R' => P2 σ H' Keep.refl R'.tail
theorem ret_s {e : E} (O : XOk C U X) (hm : KeepM B md) (h : k1Ret B C st (chkE md e) = some nxm) : nxm = none ∧ PS X st (tS B md none (evS U (.ret e))) := by
  unfold k1Ret at h
  split at h
  case h_2 => cases h
  split at h
  case h_2 => cases h
  rename_i x pos m e1
  split at h
  case isFalse => cases h
  rename_i hf
  cases h
  refine ⟨rfl, PS.imp (ps_ret ((snd U e).e (W := W0) O e1)) fun D0 σ H ⟨en, ts, R, P⟩ => ⟨en, ts, R, ?_⟩⟩
  rw [evS] at P
  refine P.ofE.mono fun d en' _ P2 v H' R' => P2 v σ H' md Keep.refl hm ?_
  simp only [Bool.or_eq_true, decide_eq_true_eq] at hf
  rcases hf with hf | hf
  · rw [← hf]; exact R'
  · rw [hf]; exact R'.freeze
theorem retN_s (hm : KeepM B md) (h : k1RetN B st = some nxm) : nxm = none ∧ PS X st (tS B md none (evS U .retN)) := by
  unfold k1RetN at h
  split at h
  case h_2 => cases h
  split at h
  case isFalse => cases h
  rename_i pos hf
  cases h
  refine ⟨rfl, PS.imp ps_retN fun D0 σ H ⟨en, ts, R, P⟩ => ?_⟩
  rw [evS] at P
  refine P .non σ H md Keep.refl hm ?_
  rw [hf]
  exact R.flat fun Z => .non
theorem brk_s (h : k1Brk B md st = some nxm) : nxm = none ∧ PS X st (tS B md none (evS U .brk)) := by
  unfold k1Brk at h
  split at h
  case h_2 => cases h
  split at h
  case isFalse => cases h
  rename_i pos hl
  cases h
  refine ⟨rfl, PS.imp ps_break fun D0 σ H ⟨en, ts, R, P⟩ => ?_⟩
  rw [evS] at P
  obtain ⟨l, e, q⟩ := P
  rw [hl] at e
  cases e
  exact q σ H Keep.refl R
theorem cnt_s (h : k1Cnt B md st = some nxm) : nxm = none ∧ PS X st (tS B md none (evS U .cnt)) := by
  unfold k1Cnt at h
  split at h
  case h_2 => cases h
  split at h
  case isFalse => cases h
  rename_i pos hl
  cases h
  refine ⟨rfl, PS.imp ps_continue fun D0 σ H ⟨en, ts, R, P⟩ => ?_⟩
  rw [evS] at P
  obtain ⟨l, e, q⟩ := P
  rw [hl] at e
  cases e
  exact q σ H Keep.refl R
theorem rai_s {c : Nat} {as : E} (h : k1Rai st = some nxm) : nxm = none ∧ PS X st (tS B md none (evS U (.raise c as))) := by
  unfold k1Rai at h
  split at h
  case h_2 => cases h
  cases h
  refine ⟨rfl, PS.imp ps_never fun D0 σ H ⟨en, ts, R, P⟩ => ?_⟩
  rw [evS] at P
  have P2 := P.ofE (md := md) (W := W0)
  cases e : evL U as en with
  | ok ds en' => rw [e] at P2; exact P2
  | exc c fs en' => rw [e] at P2; exact P2
  | bad => rw [e] at P2; exact P2
theorem put_s {i : Nat} {k e : E} (O : XOk C U X) (h : k1Put C md i st (chkE md k) (chkE md e) = some nxm) : nxm = some md ∧ PS X st (tS B md (some md) (evS U (.put .set i k e))) := by
  unfold k1Put at h
  split at h
  case h_2 => cases h
  rename_i y py kx sp x pos
  split at h
  case isFalse => cases h
  rename_i hq
  simp only [Bool.and_eq_true, decide_eq_true_eq] at hq
  obtain ⟨⟨k1, k2⟩, k3⟩ := hq
  split at h
  case h_2 => cases h
  rename_i m mk e1 e2
  split at h
  case isFalse => cases h
  rename_i fk
  cases h
  obtain ⟨n1, n2, n3, n4⟩ := okN_ O k1
  have hu := O.un
  have pg : PG X (.Subscript (.Name y py) kx sp) (gSub (tVar i) (tD md mk W0 (evE U k)) (rSetA X.K)) := pg_sub (pe_var n1 n2 n3 n4) ((snd U k).e O e2) (set_both (by omega)) (fun v => by cases kx <;> first | rfl | cases k3)
  refine ⟨rfl, PS.imp (ps_asg (pos := pos) ((snd U e).e (W := W0) O e1) pg (show swapsWith x (some (.Subscript (.Name y py) kx sp)) pos.line X.env = pure false from sw_sub) rfl rfl) fun D0 σ H ⟨en, ts, R, P⟩ => ⟨en, ts, R, ?_⟩⟩
  rw [evS] at P
  refine P.ofE.mono fun d en1 _ P2 v H1 R1 => ?_
  by_cases hs : (rdS en1 i).isSome = true
  case neg => rw [if_neg hs] at P2; exact (show False from P2).elim
  rw [if_pos hs] at P2
  obtain ⟨r0, e0⟩ := Option.isSome_iff_exists.mp hs
  obtain ⟨a, rs', s1, _, _⟩ := slot_own R1 e0 k2
  refine ⟨.ref a, s1, en1, (v, d, .F) :: ts, R1.freeze, (Post.more [(v, d, .F)] P2.ofE).mono fun kd en2 _ P3 kv H2 R2 => ?_⟩
  have P4 := P3.ofE (md := md) (W := W0)
  unfold mutO at P4
  split at P4
  case h_2 => exact (show False from P4).elim
  rename_i r1 e1'
  split at P4
  case h_2 => exact (show False from P4).elim
  rename_i y1 r2 e2'
  exact put_step s1 k2 fk R2 e1' e2' fun H' R' => P4 σ H' Keep.refl R'
theorem atom_ev {e : E} (h : isAtom e = true) {en : Sl} {d : D} {en' : Sl} (q : evE U e en = .ok d en') : en' = en := by
  cases e <;> first | exact absurd (show false = true from h) (by decide) | skip
  · rw [evE] at q; cases hq : rdS en _ with
    | none => rw [hq] at q; cases q
    | some x => rw [hq] at q; cases q; rfl
  · rw [evE] at q; cases q; rfl
theorem aug_s {i : Nat} {k e : E} (O : XOk C U X) (h : k1Aug C md i (isAtom e) st (chkE md k) (chkE md e) = some nxm) : nxm = some md ∧ PS X st (tS B md (some md) (evS U (.put .augAdd i k e))) := by
  unfold k1Aug at h
  split at h
  case h_2 => cases h
  rename_i y py kx sp x pos
  split at h
  case isFalse => cases h
  rename_i hq
  simp only [Bool.and_eq_true, decide_eq_true_eq] at hq
  obtain ⟨⟨⟨k1, k2⟩, k3⟩, k4⟩ := hq
  split at h
  case h_2 => cases h
  rename_i mk e1 e2
  split at h
  case isFalse => cases h
  rename_i fk
  cases h
  obtain ⟨n1, n2, n3, n4⟩ := okN_ O k1
  have hu := O.un
  refine ⟨rfl, PS.imp (ps_augS (pe_var n1 n2 n3 n4) ((snd U k).e (W := W0) O e1) get_lst ((snd U e).e (W := W0) O e2) ip_add set_list (fun ov iv new => by cases kx <;> first | rfl | cases k3)) fun D0 σ H ⟨en, ts, R, P⟩ => ?_⟩
  rw [evS] at P
  case x_2 => intro z; cases z
  by_cases hs : (rdS en i).isSome = true
  case neg => rw [if_neg hs] at P; exact (show False from P).elim
  rw [if_pos hs] at P
  obtain ⟨r0, e0⟩ := Option.isSome_iff_exists.mp hs
  obtain ⟨a, rs', s1, _, _⟩ := slot_own R e0 k2
  refine ⟨.ref a, s1, en, ts, R, P.ofE.mono fun kd en2 _ P2 kv H2 R2 => ?_⟩
  have P3 := P2.ofE (md := md) (W := W0)
  cases he : evE U e en2 with
  | exc c fs en' => rw [he] at P3; exact (show False from P3).elim
  | bad => rw [he] at P3; exact (show False from P3).elim
  | ok d en3 =>
    have := atom_ev k4 he
    subst this
    rw [he] at P3
    have P3 : PostS B D0 σ ts (some md) (SOut.ofE (mutO .augAdd i [kd, d] en3) fun x σ => SOut.nx σ) := P3
    have P4 := P3.ofE (md := md) (W := W0)
    unfold mutO at P4
    split at P4
    case h_2 => exact (show False from P4).elim
    rename_i r1 e1'
    split at P4
    case h_2 => exact (show False from P4).elim
    rename_i y1 r2 e2'
    obtain ⟨Z0, vk⟩ := R2.vw fk
    obtain ⟨a', rs2, s2, raw, close⟩ := slot_own R2.tail e1' k2
    rw [s1] at s2
    cases s2
    unfold mopF at e2'
    split at e2' <;> first | contradiction | skip
    rename_i xs z b0 e3 e4
    cases e4
    obtain ⟨j, hj, h5⟩ := Option.bind_eq_some_iff.mp e2'
    split at h5
    case h_2 => cases h5
    rename_i a0 ha0
    cases h5
    cases vw_int vk
    -- the list as it stands
    obtain ⟨Z, o, fs, g, OP⟩ := rep_open raw
    rcases OP.kids with ⟨us, ds', rfl, q1, q2⟩ | ⟨us, ds', rfl, q1, q2⟩ | ⟨us, ds', n, rfl, q1, q2⟩
    · cases q1
      obtain ⟨u, hu1, hu2⟩ := (ownA_F q2).get ha0
      cases vw_int hu2.vw
      have hlen := q2.length
      refine ⟨a, us, z, .int a0, rfl, rfl, OP.at1, ?_, en3, ts, R2.tail, ?_⟩
      · show (ixN us.length z).bind (fun j => us[j]?) = _
        rw [hlen, show ixN xs.length z = some j from hj]
        exact hu1
      · rw [he]
        intro w H3 R3
        obtain ⟨Z3, vw3⟩ := R3.vw rfl
        cases vw_int vw3
        refine ⟨a0, b0, rfl, rfl, ?_⟩
        obtain ⟨a3, rs3, s3, raw3, close3⟩ := slot_own R3.tail e1' k2
        rw [s1] at s3
        cases s3
        have raw4 : Rep ((.int (a0 + b0), .int (a0 + b0), .F) :: (.ref a, .list xs, .O .F) :: (rs3 ++ ts)) H3 := raw3.cons_rd fun Z => .int _
        obtain ⟨us3, vj, h1, h2, h3, h4⟩ := rep_setAt raw4 ha0
        exact ⟨a, us3, z, j, rfl, rfl, h1, by rw [h2]; exact hj, P4 σ _ Keep.refl (close3 _ _ _ h4)⟩
    · cases q1
    · cases q1
theorem augN_s {i : Nat} {e : E} (O : XOk C U X) {op : Operator} {o : Op} (ho : (op = .Add ∧ o = .add) ∨ (op = .Sub ∧ o = .sub)) (h : k1AugN B C md i op st (chkE md e) = some nxm) : nxm = some md ∧ PS X st (tS B md (some md) (evS U (.aug o i e))) := by
  unfold k1AugN at h
  split at h
  case h_2 => cases h
  rename_i y py o' x pos
  split at h
  case isFalse => cases h
  rename_i hq
  simp only [Bool.and_eq_true, decide_eq_true_eq] at hq
  obtain ⟨⟨⟨⟨rfl, k1⟩, k1'⟩, k2⟩, k3⟩ := hq
  split at h
  case h_2 => cases h
  rename_i e1
  cases h
  obtain ⟨n1, n2, n3, n4⟩ := okN_ O k1'
  obtain ⟨h1, h2⟩ := Bool.and_eq_true_iff.mp (show (decide (C.N[i]? = some y) && sto C y) = true from k1)
  obtain ⟨l, f⟩ := O.sto h2
  have pe := (snd U e).e (W := W0) O e1
  have core : ∀ (g : Int → Int → Int) (D0 : Ends) (σ : L2.St) (H : Hp), (∀ x d y, augF o x d = some y → ∃ a b, x = .int a ∧ d = .int b ∧ y = .int (g a b)) → tS B md (some md) (evS U (.aug o i e)) D0 σ H → tAug i (tD md .F W0 (evE U e)) (ipI g) D0 σ H := by
    intro g D0 σ H hg ⟨en, ts, R, P⟩
    rw [evS] at P
    by_cases hs : (rdS en i).isSome = true
    case neg => rw [if_neg hs] at P; exact (show False from P).elim
    rw [if_pos hs] at P
    obtain ⟨r0, e0⟩ := Option.isSome_iff_exists.mp hs
    obtain ⟨v, m', rs, q1, _⟩ := R.get e0
    refine ⟨v, q1, en, ts, R, P.ofE.mono fun d en' _ P2 w H' R' => ?_⟩
    have P3 := P2.ofE (md := md) (W := W0)
    obtain ⟨y0, ey, P4⟩ := P3.ofO
    obtain ⟨x0, ex, ey⟩ := Option.bind_eq_some_iff.mp ey
    obtain ⟨a, b, rfl, rfl, rfl⟩ := hg _ _ _ ey
    obtain ⟨Z, vw⟩ := R'.vw rfl
    cases vw_int vw
    obtain ⟨v', s2, R2⟩ := R'.tail.dup ex k2
    rw [q1] at s2
    cases s2
    obtain ⟨Z2, vw2⟩ := R2.vw rfl
    cases vw_int vw2
    exact ⟨a, b, rfl, rfl, P4 _ _ (keep_set k3) ((R'.tail.flat fun Z => .int _).set k2)⟩
  rcases ho with ⟨rfl, rfl⟩ | ⟨rfl, rfl⟩
  · refine ⟨rfl, PS.imp (ps_aug O.nd n1 l pe ip_add f) fun D0 σ H w => core (fun a b => a + b) D0 σ H (fun x d y h => ?_) w⟩
    unfold augF at h
    split at h <;> first | (cases h; exact ⟨_, _, rfl, rfl, rfl⟩) | contradiction
  · refine ⟨rfl, PS.imp (ps_aug O.nd n1 l pe ip_sub f) fun D0 σ H w => core (fun a b => a - b) D0 σ H (fun x d y h => ?_) w⟩
    unfold augF at h
    split at h <;> first | (cases h; exact ⟨_, _, rfl, rfl, rfl⟩) | contradiction
end
end Dt
end
section
set_option Elab.async false
set_option linter.all false
set_option maxRecDepth 100000
set_option maxHeartbeats 4000000
/-! Statements: the checker is sound (blocks, loops). -/
namespace Dt
open PySem PySem.Spec PyProof.Rows L2
structure SndS (U : Ev) (a : S) : Prop where
  one : ∀ {B : Bx} {C : Ck} {X : Cx} {md : List Md} {st : Stmt} {nxm : Option (List Md)}, XOk C U X → KeepM B md → chk1 a B C md st = some nxm → (∀ md', nxm = some md' → KeepM B md') ∧ PS X st (tS B md nxm (evS U a))
  blk : ∀ {B : Bx} {C : Ck} {X : Cx} {md : List Md} {sts : List Stmt} {nxm : Option (List Md)}, XOk C U X → KeepM B md → chkB a B C md sts = some nxm → (∀ md', nxm = some md' → KeepM B md') ∧ PSs X sts (tS B md nxm (evS U a))
theorem PostS.none {B : Bx} {D0 : Ends} {σ : L2.St} {ts : List Root} {nxm : Option (List Md)} {x : SOut} (h : PostS B D0 σ ts nxm x) : PostS B D0 σ ts none x := by
  cases x with
  | nx en => trivial
  | _ => exact h
section
variable {C : Ck} {U : Ev} {X : Cx} {md : List Md} {B : Bx} {st : Stmt} {nxm : Option (List Md)}
theorem sw_pair {env : Env} {x y : Str} {px py pt pt2 : Pos} {kt k2 : Nat} {a b : Expr} (hb : env.blockKind = .function) (hx : env.kindOf x = some .local) (hy : env.kindOf y = some .local) (hl : (py.line == px.line) = true) (hxy : x ≠ y) (na : nostar a = true) (nb : nostar b = true)
    (f1 : [a, b].all (foldedForSure 8) = false) (f2 : [a, b].all (constantsAlone 8) = false) : swappedStores [.Tuple [.Name x px, .Name y py] kt pt] (.Tuple [a, b] k2 pt2) env = pure (some [x, y]) := by
  have hl' : py.line = px.line := by simpa using hl
  unfold swappedStores
  simp only [hb, List.head?_cons, Option.map_some, Option.getD_some, Expr.pos, List.filterMap_cons, List.filterMap_nil, hx, hy, beq_self_eq_true, Bool.true_and, hl', if_true, List.length_cons, List.length_nil, f1, f2]
  have e : [x, y].eraseDups = [x, y] := by
    have hxy' : (y == x) = false := by
      rw [beq_eq_false_iff_ne]
      exact fun q => hxy q.symm
    have hxy2 : (x == y) = false := by
      rw [beq_eq_false_iff_ne]
      exact hxy
    simp [List.eraseDups_cons, hxy', hxy2]
  rw [e]
  refine (if_neg (by decide)).trans ((if_neg ?_).trans rfl)
  intro q
  obtain ⟨z, hz, q⟩ := List.any_eq_true.mp q
  have nz : nostar z = true := by
    rcases List.mem_cons.mp hz with rfl | hz
    · exact na
    · cases List.mem_singleton.mp hz
      exact nb
  cases z <;> first | exact nomatch (show false = true from q) | exact nomatch (show false = true from nz)
theorem loc_ {x : Str} (O : XOk C U X) (h : isLoc C x = true) : X.env.scope.names.lookup x = some .local := by
  unfold isLoc at h
  split at h
  · rw [O.sc]; assumption
  · cases h
theorem fn_ (h : isFn C = true) : C.sc.kind = .function := by
  unfold isFn at h
  split at h
  · assumption
  · cases h
theorem par_s {tg : Tg} {as : E} (O : XOk C U X) (h : k1Par B C md tg (noPk as) st (chkL md as) = some nxm) : nxm = some md ∧ PS X st (tS B md (some md) (evS U (.par tg as))) := by
  unfold k1Par at h
  split at h
  case h_2 => cases h
  rename_i i j y1 p1 y2 p2 kt pt a b k2 pt2 pos
  split at h
  case isFalse => cases h
  rename_i hq
  simp only [Bool.and_eq_true, decide_eq_true_eq, Bool.not_eq_true'] at hq
  obtain ⟨⟨⟨⟨⟨⟨⟨⟨⟨⟨⟨⟨⟨⟨q1, q2⟩, q3⟩, q4⟩, q5⟩, q6⟩, q7⟩, q8⟩, q9⟩, q10⟩, q11⟩, q12⟩, q13⟩, q14⟩, q15⟩ := hq
  split at h
  case h_2 => cases h
  rename_i m1 m2 e1
  split at h
  case isFalse => cases h
  rename_i hf
  obtain ⟨f1, f2⟩ := Bool.and_eq_true_iff.mp hf
  cases h
  obtain ⟨tes, T, imp, _⟩ := (snd U as).l (W := W0) O e1
  have hb : X.env.blockKind = .function := by
    unfold Env.blockKind
    rw [O.sc, fn_ q14]
    rfl
  refine ⟨rfl, PS.imp (ps_par O.calm O.nd (by rw [O.N]; exact q1) (by rw [O.N]; exact q2) q3 (loc_ O q5) (loc_ O q6) T.pa (sw_pair hb (loc_ O q5) (loc_ O q6) q9 q4 q12 q13 q10 q11) (by rfl)) fun D0 σ H ⟨en, ts, R, P⟩ => imp σ H _ ⟨en, ts, R, ?_⟩⟩
  rw [evS] at P
  refine P.ofE.mono fun ds en' _ P2 vs H' tr R' o => ?_
  have n := q15
  cases o with
  | pk _ _ _ _ => cases n
  | lnt _ _ _ _ => cases n
  | @tmp a0 r0 v d _ vs ds _ tr hn o =>
    have n2 : noPk r0 = true := (Bool.and_eq_true_iff.mp (show (!isPk a0 && noPk r0) = true from n)).2
    cases o with
    | pk _ _ _ _ => cases n2
    | lnt _ _ _ _ => cases n2
    | @tmp a1 r1 w d' _ vs ds _ tr hn2 o =>
      cases o
      exact ⟨v, w, rfl, P2 _ _ ((keep_set q7).trans (keep_set q8)) ((R'.fit f1).fit f2)⟩
theorem unp_s {tg : Tg} {e : E} (O : XOk C U X) (h : k1Unp B C md tg st (chkE md e) = some nxm) : nxm = some md ∧ PS X st (tS B md (some md) (evS U (.unp tg e))) := by
  unfold k1Unp at h
  split at h
  case h_2 => cases h
  rename_i es k p x pos
  split at h
  case isFalse => cases h
  rename_i hq
  simp only [Bool.and_eq_true] at hq
  obtain ⟨⟨⟨⟨q1, q2⟩, q3⟩, q4⟩, q5⟩ := hq
  split at h
  case h_2 => cases h
  rename_i m e1
  cases h
  have sw : swappedStores [.Tuple es k p] x X.env = pure none := by
    cases x <;> first | rfl | cases q4
  refine ⟨rfl, PS.imp (ps_asg (pos := pos) ((snd U e).e (W := W0) O e1) (pg_snd O q1) (show swapsWith x (some (.Tuple es k p)) pos.line X.env = pure false from sw_no q3) sw rfl) fun D0 σ H ⟨en, ts, R, P⟩ => ⟨en, ts, R, ?_⟩⟩
  rw [evS] at P
  refine P.ofE.mono fun d en' _ P2 v H' R' => ?_
  split at P2
  case h_2 => exact (show False from P2).elim
  rename_i en2 ea
  exact ⟨en', ts, d, R'.freeze, en2, ea, fun σ' R2 ag => P2 σ' H' (Keep.agr ag fun j m hj => of_decide_eq_true (List.all_eq_true.mp q2 j hj) m) R2⟩
theorem join_ {a b : Option (List Md)} (h : joinR a b = some nxm) : (a = none ∨ a = nxm) ∧ (b = none ∨ b = nxm) := by
  unfold joinR at h
  split at h
  · cases h; exact ⟨.inl rfl, .inr rfl⟩
  · cases h; exact ⟨.inr rfl, .inl rfl⟩
  · split at h
    · rename_i e
      subst e
      cases h
      exact ⟨.inr rfl, .inr rfl⟩
    · cases h
theorem ite_s {t : E} {a b : S} (ha : SndS U a) (hb : SndS U b) (O : XOk C U X) (hm : KeepM B md) (h : k1Ite B C md st (chkT md t) (chkB a) (chkB b) = some nxm) : (∀ md', nxm = some md' → KeepM B md') ∧ PS X st (tS B md nxm (evS U (.ite t a b))) := by
  unfold k1Ite at h
  split at h
  case h_2 => cases h
  rename_i c xs ys pos
  split at h
  case isFalse => cases h
  rename_i ht
  split at h
  case h_2 => cases h
  rename_i r1 r2 e1 e2
  obtain ⟨j1, j2⟩ := join_ h
  obtain ⟨m1, p1⟩ := ha.blk O hm e1
  obtain ⟨m2, p2⟩ := hb.blk O hm e2
  refine ⟨fun md' e => ?_, PS.imp (ps_if ((snd U t).t (W := W0) O ht).1 p1 p2) fun D0 σ H ⟨en, ts, R, P⟩ => ⟨en, ts, R, ?_⟩⟩
  · subst e
    rcases j1 with j1 | j1
    · rcases j2 with j2 | j2
      · subst j1 j2
        unfold joinR at h
        cases h
      · exact m2 md' j2
    · exact m1 md' j1
  · rw [evS] at P
    refine P.ofE.mono fun c0 en' _ P2 H' R' => ?_
    cases c0 with
    | true =>
      refine ⟨en', ts, R', ?_⟩
      rcases j1 with j1 | j1
      · subst j1; exact P2.none
      · subst j1; exact P2
    | false =>
      refine ⟨en', ts, R', ?_⟩
      rcases j2 with j2 | j2
      · subst j2; exact P2.none
      · subst j2; exact P2
/-- a turn of a loop: what its body is to reach -/
theorem turn_post {D0 : Ends} {σ2 : L2.St} {ts more : List Root} {nb : Option (List Md)} {x : SOut} {again : Sl → SOut} {N : L2.St → Hp → Prop} (hn : nb = none ∨ nb = some md)
    (P : PostS B D0 σ2 ts (some md) (match x with | .nx en => again en | .cnt en => again en | .brk en => .nx en | y => y))
    (hN : ∀ (en2 : Sl) (σ3 : L2.St) (H3 : Hp), (x = .nx en2 ∨ x = .cnt en2) → Keep B.kp σ2 σ3 → RepS md σ3 en2 (more ++ ts) H3 → PostS B D0 σ2 ts (some md) (again en2) → N σ3 H3) :
    PostS { B with lp := some md } { D0 with nx := N, ct := N, bk := D0.nx } σ2 (more ++ ts) nb x := by
  cases x with
  | nx en2 =>
    rcases hn with rfl | rfl
    · trivial
    · exact fun σ3 H3 k r => hN en2 σ3 H3 (.inl rfl) k r P
  | cnt en2 => exact ⟨md, rfl, fun σ3 H3 k r => hN en2 σ3 H3 (.inr rfl) k r P⟩
  | brk en2 => exact ⟨md, rfl, fun σ3 H3 k r => P σ3 H3 k (RepS.drop r)⟩
  | ret d en2 => exact fun v σ3 H3 mdx k m r => P v σ3 H3 mdx k m (RepS.drop1 r)
  | exc _ _ _ => exact P
  | bad => exact P
theorem for_s {tg : Tg} {ik : Ik} {it : E} {b : S} (hb : SndS U b) (O : XOk C U X) (hm : KeepM B md) (h : k1For B C md tg ik (noPk it) st (chkL md it) (chkB b) = some nxm) : nxm = some md ∧ PS X st (tS B md (some md) (evS U (.for tg ik it b))) := by
  unfold k1For at h
  split at h
  case h_2 => cases h
  rename_i t iter body pos
  split at h
  case isFalse => cases h
  rename_i hq
  simp only [Bool.and_eq_true] at hq
  obtain ⟨⟨q1, q2⟩, q3⟩ := hq
  split at h
  case h_2 => cases h
  rename_i es e1
  have fin : ∀ nb : Option (List Md), ∀ ms : List Md, chkL md it C es = some ms → chkB b { B with lp := some md } C md body = some nb → (nb = none ∨ nb = some md) → PS X (.For t iter body [] pos) (tS B md (some md) (evS U (.for tg ik it b))) := by
    intro nb ms e2 e3 hnb
    obtain ⟨pi, fs⟩ := pi_ok (W := W0) (snd U it) O e1 e2 q1
    obtain ⟨_, pb⟩ := hb.blk (B := { B with lp := some md }) O hm e3
    have po : PassesOwn (model X.prog X.w) X.A X.env X.xe := by rw [O.xe]; exact PassesOwn.never
    refine PS.imp (ps_for po O.calm pi (pg_snd O q2) pb (fs _)) fun D0 σ H ⟨en, ts, R, P⟩ => ?_
    rw [evS] at P
    rw [← ofE_bind (evL U it en)] at P
    refine ⟨en, ts, R, (P.ofE (md := md) (W := W0)).mono fun items en' _ P2 J H' tr R' w => ?_⟩
    refine ⟨fun i m σ1 H1 => m = items.length - i ∧ i ≤ items.length ∧ Keep B.kp σ σ1 ∧ ∃ en1, RepS md σ1 en1 (tr ++ ts) H1 ∧ PostS B D0 σ1 ts (some md) (forLoop (fun d σ => match asgT tg d σ with | some σ => evS U b σ | none => .bad) (items.drop i) en1),
      ⟨_, rfl, Nat.zero_le _, Keep.refl, en', R', P2⟩, ?_⟩
    rintro i m σ1 H1 ⟨rfl, hi, kσ, en1, R1, P1⟩
    obtain ⟨rs, S, raw⟩ := R1.raw
    obtain ⟨w1, w2⟩ := w i H1 (rs ++ ts) (raw.perm (List.perm_append_comm_assoc ..))
    by_cases hl : i < items.length
    · right
      rw [List.drop_eq_getElem_cons hl, forLoop] at P1
      obtain ⟨go, y⟩ := w2 items[i] (List.getElem?_eq_getElem hl)
      refine ⟨go, fun σ3 H3 => Keep B.kp σ1 σ3 ∧ ∃ en3, RepS md σ3 en3 (tr ++ ts) H3 ∧ PostS B D0 σ3 ts (some md) (forLoop (fun d σ => match asgT tg d σ with | some σ => evS U b σ | none => .bad) (items.drop (i + 1)) en3),
        fun σ3 H3 ⟨k3, en3, r3, p3⟩ => ⟨items.length - (i + 1), by omega, rfl, hl, kσ.trans k3, en3, r3, p3⟩, fun x H2 hy => ?_⟩
      have R2 : RepS md σ1 en1 ((x, items[i], .F) :: (tr ++ ts)) H2 := by
        refine ⟨rs, S, (y x H2 hy).perm ?_⟩
        refine List.Perm.trans (List.Perm.cons _ (List.perm_append_comm_assoc ..)) ?_
        exact perm_mid.symm
      cases ea : asgT tg items[i] en1 with
      | none =>
        rw [ea] at P1
        exact (show False from P1).elim
      | some en2 =>
        rw [ea] at P1
        refine ⟨en1, _, items[i], R2, en2, ea, fun σ2 R3 ag => ⟨en2, _, R3, ?_⟩⟩
        have k2 : Keep B.kp σ1 σ2 := Keep.agr ag fun j mj hj => of_decide_eq_true (List.all_eq_true.mp q3 j hj) mj
        refine turn_post (again := forLoop (fun d σ => match asgT tg d σ with | some σ => evS U b σ | none => .bad) (items.drop (i + 1))) hnb ?_ fun en4 σ3 H3 _ k3 r3 p3 => ⟨k2.trans k3, en4, r3, p3.keep k3⟩
        refine PostS.keep k2 ?_
        simp only at P1
        cases eb : evS U b en2 <;> (rw [eb] at P1; exact P1)
    · left
      have hi2 : items.length ≤ i := Nat.le_of_not_lt hl
      rw [List.drop_eq_nil_of_le hi2, forLoop] at P1
      exact ⟨w1 hi2, P1 σ1 H1 Keep.refl (RepS.drop R1)⟩
  split at h
  · rename_i ms e2 e3
    cases h
    exact ⟨rfl, fin _ ms e2 e3 (.inl rfl)⟩
  · rename_i ms md' e2 e3
    split at h
    · rename_i em
      subst em
      cases h
      exact ⟨rfl, fin _ ms e2 e3 (.inr rfl)⟩
    · cases h
  · cases h
theorem whl_s {t : E} {b : S} (hb : SndS U b) (O : XOk C U X) (hm : KeepM B md) (h : k1Whl B C md st (chkT md t) (chkB b) = some nxm) : nxm = some md ∧ PS X st (tS B md (some md) (evS U (.whl t b))) := by
  unfold k1Whl at h
  split at h
  case h_2 => cases h
  rename_i c body pos
  split at h
  case isFalse => cases h
  rename_i ht
  have fin : ∀ nb : Option (List Md), chkB b { B with lp := some md } C md body = some nb → (nb = none ∨ nb = some md) → PS X (.While c body [] pos) (tS B md (some md) (evS U (.whl t b))) := by
    intro nb e3 hnb
    obtain ⟨_, pb⟩ := hb.blk (B := { B with lp := some md }) O hm e3
    have po : PassesOwn (model X.prog X.w) X.A X.env X.xe := by rw [O.xe]; exact PassesOwn.never
    refine PS.imp (ps_while po ((snd U t).t (W := W0) O ht).1 pb) fun D0 σ H ⟨en, ts, R, P⟩ => ?_
    rw [evS] at P
    refine ⟨fun m σ1 H1 => Keep B.kp σ σ1 ∧ ∃ en1, RepS md σ1 en1 ts H1 ∧ PostS B D0 σ1 ts (some md) (whlLoop (evT U t) (evS U b) m en1), ⟨U.wf, Keep.refl, en, R, P⟩, ?_⟩
    rintro m σ1 H1 ⟨k1, en1, R1, P1⟩
    cases m with
    | zero => exact (show False from P1).elim
    | succ m =>
      rw [whlLoop] at P1
      refine ⟨en1, ts, R1, P1.ofE.mono fun c0 en2 _ P2 H2 R2 => ?_⟩
      cases c0 with
      | false => exact P2 σ1 H2 Keep.refl R2
      | true =>
        simp only [if_true] at P2 ⊢
        refine ⟨fun σ3 H3 => Keep B.kp σ1 σ3 ∧ ∃ en3, RepS md σ3 en3 ts H3 ∧ PostS B D0 σ3 ts (some md) (whlLoop (evT U t) (evS U b) m en3), fun σ3 H3 ⟨k3, en3, r3, p3⟩ => ⟨m, Nat.lt_succ_self m, k1.trans k3, en3, r3, p3⟩, en2, ts, R2, ?_⟩
        refine turn_post (more := []) (again := whlLoop (evT U t) (evS U b) m) hnb ?_ fun en4 σ3 H3 _ k3 r3 p3 => ⟨k3, en4, r3, p3.keep k3⟩
        cases eb : evS U b en2 <;> (rw [eb] at P2; exact P2)
  split at h
  · rename_i e3
    cases h
    exact ⟨rfl, fin _ e3 (.inl rfl)⟩
  · rename_i md' e3
    split at h
    · rename_i em
      subst em
      cases h
      exact ⟨rfl, fin _ e3 (.inr rfl)⟩
    · cases h
  · cases h
end
end Dt
end
section
set_option Elab.async false
set_option linter.all false
set_option maxRecDepth 100000
set_option maxHeartbeats 4000000
/-! Blocks, defs. -/
namespace Dt
open PySem PySem.Spec PyProof.Rows L2
theorem SR.mode {md : List Md} {σ : L2.St} {en : Sl} {rs : List Root} (h : SR md σ en rs) : ∀ (i : Nat) (m : Md), rdS en i = none → SR (md.set i m) σ en rs := by
  induction h with
  | nil => intro i m _; exact .nil
  | @live m0 md v σ d en rs h ih =>
    intro i m e
    cases i with
    | zero => rw [rdS_zero] at e; cases e
    | succ i => rw [rdS_cons] at e; exact .live (ih i m e)
  | @dead m0 md o σ en rs h ih =>
    intro i m e
    cases i with
    | zero => exact .dead h
    | succ i => rw [rdS_cons] at e; exact .dead (ih i m e)
theorem rd_gone {en : Sl} {i : Nat} : rdS (en.set i none) i = none := by
  unfold rdS
  rw [List.getElem?_set]
  by_cases h : i < en.length
  · simp [h]
  · simp [h]
theorem RepS.fgt {md : List Md} {σ : L2.St} {en : Sl} {ts : List Root} {H : Hp} (h : RepS md σ en ts H) (i : Nat) (m : Md) : RepS (md.set i m) σ (en.set i none) ts H := by
  have h1 := h.kill i ((σ[i]?).join)
  have e : σ.set i ((σ[i]?).join) = σ := by
    apply List.ext_getElem?
    intro j
    rw [List.getElem?_set]
    by_cases z : i = j
    · subst z
      by_cases hl : i < σ.length
      · rw [if_pos rfl, if_pos hl, List.getElem?_eq_getElem hl]
        rfl
      · rw [if_pos rfl, if_neg hl, List.getElem?_eq_none (Nat.le_of_not_lt hl)]
    · rw [if_neg z]
  rw [e] at h1
  obtain ⟨rs, S, raw⟩ := h1
  exact ⟨rs, S.mode i m rd_gone, raw⟩
theorem keepM_set {B : Bx} {md : List Md} {i : Nat} {m : Md} (h : KeepM B md) (n : i ∉ B.kp) : KeepM B (md.set i m) := fun j hj => by
  rw [List.getElem?_set_ne fun e => n (by subst e; exact hj)]
  exact h j hj
theorem seq_s {U : Ev} {a b : S} (ha : SndS U a) (hb : SndS U b) {B : Bx} {C : Ck} {X : Cx} {md : List Md} {sts : List Stmt} {nxm : Option (List Md)} (O : XOk C U X) (hm : KeepM B md) (h : kSeq B C md (kGhost a) sts (chk1 a) (chkB b) = some nxm) :
    (∀ md', nxm = some md' → KeepM B md') ∧ PSs X sts (tS B md nxm (evS U (.seq a b))) := by
  unfold kSeq at h
  split at h
  · rename_i i o e
    split at h
    · cases h
    rename_i hi
    have hm2 : KeepM B (md.set i (o.getD .F)) := keepM_set hm hi
    obtain ⟨m1, p1⟩ := hb.blk O hm2 h
    refine ⟨m1, PSs.imp p1 fun D0 σ H ⟨en, ts, R, P⟩ => ?_⟩
    rw [evS] at P
    cases a with
    | frz j =>
      cases e
      rw [evS] at P
      exact ⟨en, ts, R.frz _, P⟩
    | fgt j m =>
      cases e
      rw [evS] at P
      exact ⟨en.set i none, ts, R.fgt i m, P⟩
    | _ => cases e
  · split at h
    · rename_i st rest
      split at h
      · rename_i md1 e1
        obtain ⟨m1, p1⟩ := ha.one O hm e1
        obtain ⟨m2, p2⟩ := hb.blk O (m1 md1 rfl) h
        refine ⟨m2, PSs.imp (pss_cons p1 p2) fun D0 σ H ⟨en, ts, R, P⟩ => ⟨en, ts, R, ?_⟩⟩
        rw [evS] at P
        cases ea : evS U a en with
        | nx en1 =>
          rw [ea] at P
          exact fun σ' H' k r => ⟨en1, ts, r, PostS.keep k P⟩
        | _ => rw [ea] at P; exact P
      · rename_i e1
        cases h
        obtain ⟨m1, p1⟩ := ha.one O hm e1
        refine ⟨fun md' e => (nomatch e), PSs.imp (pss_cons p1 (pss_never)) fun D0 σ H ⟨en, ts, R, P⟩ => ⟨en, ts, R, ?_⟩⟩
        rw [evS] at P
        cases ea : evS U a en with
        | nx en1 => trivial
        | _ => rw [ea] at P; exact P
      · cases h
    · cases h
theorem sndS (U : Ev) (a : S) : SndS U a := by
  have mk : ∀ {B : Bx} {C : Ck} {X : Cx} {md : List Md} {st : Stmt} {nxm : Option (List Md)} {m : Sl → SOut}, KeepM B md → (nxm = some md ∧ PS X st (tS B md (some md) m)) → (∀ md', nxm = some md' → KeepM B md') ∧ PS X st (tS B md nxm m) := fun hm ⟨e, p⟩ => by
    subst e
    exact ⟨fun md' e => by cases e; exact hm, p⟩
  have mkn : ∀ {B : Bx} {C : Ck} {X : Cx} {md : List Md} {st : Stmt} {nxm : Option (List Md)} {m : Sl → SOut}, (nxm = none ∧ PS X st (tS B md none m)) → (∀ md', nxm = some md' → KeepM B md') ∧ PS X st (tS B md nxm m) := fun ⟨e, p⟩ => by
    subst e
    exact ⟨fun md' e => (nomatch e), p⟩
  induction a with
  | skip =>
    refine ⟨fun O hm h => ?_, fun O hm h => ?_⟩
    · rw [chk1] at h <;> first | cases h | (intros; rename_i q; cases q)
    · rw [chkB] at h
      unfold kNil at h
      split at h
      · cases h
        refine ⟨fun md' e => by cases e; exact hm, PSs.imp pss_nil fun D0 σ H ⟨en, ts, R, P⟩ => ?_⟩
        rw [evS] at P
        exact P σ H Keep.refl R
      · cases h
  | seq a b iha ihb =>
    refine ⟨fun O hm h => ?_, fun O hm h => ?_⟩
    · rw [chk1] at h <;> first | cases h | (intros; rename_i q; cases q)
    · rw [chkB] at h
      exact seq_s iha ihb O hm h
  | set i e =>
    refine ⟨fun {B C X md st nxm} O hm h => ?_, fun O hm h => ?_⟩
    · rw [chk1] at h
      exact mk (C := C) hm (set_s O h)
    · rw [chkB] at h <;> first | cases h | (intros; rename_i q; cases q)
  | par tg as =>
    refine ⟨fun {B C X md st nxm} O hm h => ?_, fun O hm h => ?_⟩
    · rw [chk1] at h
      exact mk (C := C) hm (par_s O h)
    · rw [chkB] at h <;> first | cases h | (intros; rename_i q; cases q)
  | unp tg e =>
    refine ⟨fun {B C X md st nxm} O hm h => ?_, fun O hm h => ?_⟩
    · rw [chk1] at h
      exact mk (C := C) hm (unp_s O h)
    · rw [chkB] at h <;> first | cases h | (intros; rename_i q; cases q)
  | put o i k e =>
    refine ⟨fun {B C X md st nxm} O hm h => ?_, fun O hm h => ?_⟩
    · cases o with
      | set =>
        rw [chk1] at h
        exact mk (C := C) hm (put_s O h)
      | augAdd =>
        rw [chk1] at h
        exact mk (C := C) hm (aug_s O h)
      | _ => rw [chk1] at h <;> first | cases h | (intros; rename_i q; cases q)
    · rw [chkB] at h <;> first | cases h | (intros; rename_i q; cases q)
  | aug o i e =>
    refine ⟨fun {B C X md st nxm} O hm h => ?_, fun O hm h => ?_⟩
    · cases o with
      | add =>
        rw [chk1] at h
        exact mk (C := C) hm (augN_s O (.inl ⟨rfl, rfl⟩) h)
      | sub =>
        rw [chk1] at h
        exact mk (C := C) hm (augN_s O (.inr ⟨rfl, rfl⟩) h)
      | _ => rw [chk1] at h <;> first | cases h | (intros; rename_i q; cases q)
    · rw [chkB] at h <;> first | cases h | (intros; rename_i q; cases q)
  | exp e =>
    refine ⟨fun {B C X md st nxm} O hm h => ?_, fun O hm h => ?_⟩
    · rw [chk1] at h
      exact mk (C := C) hm (exp_s O h)
    · rw [chkB] at h <;> first | cases h | (intros; rename_i q; cases q)
  | ret e =>
    refine ⟨fun {B C X md st nxm} O hm h => ?_, fun O hm h => ?_⟩
    · rw [chk1] at h
      exact mkn (C := C) (ret_s O hm h)
    · rw [chkB] at h <;> first | cases h | (intros; rename_i q; cases q)
  | retN =>
    refine ⟨fun {B C X md st nxm} O hm h => ?_, fun O hm h => ?_⟩
    · rw [chk1] at h
      exact mkn (C := C) (retN_s hm h)
    · rw [chkB] at h <;> first | cases h | (intros; rename_i q; cases q)
  | ite t a b iha ihb =>
    refine ⟨fun O hm h => ?_, fun O hm h => ?_⟩
    · rw [chk1] at h
      exact ite_s iha ihb O hm h
    · rw [chkB] at h <;> first | cases h | (intros; rename_i q; cases q)
  | «for» tg ik it b ih =>
    refine ⟨fun {B C X md st nxm} O hm h => ?_, fun O hm h => ?_⟩
    · rw [chk1] at h
      exact mk (C := C) hm (for_s ih O hm h)
    · rw [chkB] at h <;> first | cases h | (intros; rename_i q; cases q)
  | whl t b ih =>
    refine ⟨fun {B C X md st nxm} O hm h => ?_, fun O hm h => ?_⟩
    · rw [chk1] at h
      exact mk (C := C) hm (whl_s ih O hm h)
    · rw [chkB] at h <;> first | cases h | (intros; rename_i q; cases q)
  | brk =>
    refine ⟨fun {B C X md st nxm} O hm h => ?_, fun O hm h => ?_⟩
    · rw [chk1] at h
      exact mkn (C := C) (brk_s h)
    · rw [chkB] at h <;> first | cases h | (intros; rename_i q; cases q)
  | cnt =>
    refine ⟨fun {B C X md st nxm} O hm h => ?_, fun O hm h => ?_⟩
    · rw [chk1] at h
      exact mkn (C := C) (cnt_s h)
    · rw [chkB] at h <;> first | cases h | (intros; rename_i q; cases q)
  | raise c as =>
    refine ⟨fun {B C X md st nxm} O hm h => ?_, fun O hm h => ?_⟩
    · rw [chk1] at h
      exact mkn (C := C) (rai_s h)
    · rw [chkB] at h <;> first | cases h | (intros; rename_i q; cases q)
  | _ =>
    refine ⟨fun O hm h => ?_, fun O hm h => ?_⟩
    · rw [chk1] at h <;> first | cases h | (intros; rename_i q; cases q)
    · rw [chkB] at h <;> first | cases h | (intros; rename_i q; cases q)
end Dt
end
section
set_option Elab.async false
set_option linter.all false
set_option maxRecDepth 100000
set_option maxHeartbeats 4000000
/-! Defs by their bodies; the law's own call. -/
namespace Dt
open PySem PySem.Spec PyProof.Rows L2
/-- a def with what its check needs -/
structure DefC where
  name : Str
  params : Arguments
  body : List Stmt
  scope : Scope
  ps : List Str
  N : List Str
  md : List Md
  fn : Fn
  lm : List (Option Md)
def DefC.sig (d : DefC) : FnC := ⟨d.name, d.fn.np, d.fn.ln, d.lm, d.fn.rm⟩
def lmOk : Nat → List (Option Md) → List Md → List Nat → Bool
  | _, [], _, _ => true
  | i, o :: l, m :: ms, kp => (match o with
    | some m0 => decide (m = m0) && decide (i ∈ kp)
    | none => decide (m = .F)) && lmOk (i + 1) l ms kp
  | _, _ :: _, [], _ => false
def lnOf (l : List (Option Md)) : List Nat := (l.zipIdx.filter fun p => p.1.isSome).map (·.2)
def ckOf (sigs : List FnC) (bn : List Str) (d : DefC) : Ck := ⟨d.N, d.scope, d.scope, sigs, bn⟩
def bxOf (d : DefC) : Bx := ⟨d.fn.rm, d.fn.ln, d.md, none⟩
def endOk (rm : Md) : Option (Option (List Md)) → Bool
  | some none => true
  | some (some _) => decide (rm = .F)
  | none => false
def defOk (sigs : List FnC) (bn : List Str) (d : DefC) : Bool :=
  decide (d.ps.length = d.fn.np) && decide (d.lm.length = d.fn.np) && decide (d.N.length = d.fn.ns) && decide (d.md.length = d.fn.ns) && decide (d.fn.np ≤ d.fn.ns) && decide (d.fn.ln = lnOf d.lm) && decide (d.fn.ln.length ≤ 1) && lmOk 0 d.lm d.md d.fn.ln &&
  isFn (ckOf sigs bn d) && !d.scope.isCoroutine && !d.scope.isGenerator && decide d.N.Nodup && decide (d.N.take d.ps.length = d.ps) && (d.ps.all fun x => vis (ckOf sigs bn d) x) && (d.scope.names.all fun y => decide (y.2 ≠ .free)) &&
  endOk d.fn.rm (chkB d.fn.body (bxOf d) (ckOf sigs bn d) d.md d.body)
/-! ### the start -/
theorem start_rep : ∀ {lm : List (Option Md)} {vs : List V} {ds : List D} {md : List Md} {kp : List Nat} {i : Nat}, vs.length = lm.length → ds.length = lm.length → lm.length ≤ md.length → lmOk i lm md kp = true →
    SR md (vs.map some ++ List.replicate (md.length - lm.length) none) (ds.map some ++ List.replicate (md.length - lm.length) none) (argR lm vs ds)
  | [], [], [], md, kp, i, _, _, _, _ => by
    have : ∀ md : List Md, SR md (List.replicate md.length none) (List.replicate md.length none) [] := by
      intro md
      induction md with
      | nil => exact .nil
      | cons m md ih => exact .dead ih
    exact this md
  | o :: l, v :: vs, d :: ds, m :: md, kp, i, h1, h2, h3, h4 => by
    obtain ⟨k1, k2⟩ := Bool.and_eq_true_iff.mp (show (_ && lmOk (i + 1) l md kp) = true from h4)
    have em : o.getD .F = m := by
      cases o with
      | none => exact (of_decide_eq_true k1).symm
      | some m0 => exact (of_decide_eq_true (Bool.and_eq_true_iff.mp k1).1).symm
    have ih := start_rep (lm := l) (vs := vs) (ds := ds) (md := md) (kp := kp) (i := i + 1) (by simpa using h1) (by simpa using h2) (by simpa using h3) k2
    have e : (m :: md).length - (o :: l).length = md.length - l.length := by simp
    rw [e]
    show SR (m :: md) (some v :: _) (some d :: _) ((v, d, o.getD .F) :: argR l vs ds)
    rw [em]
    exact .live ih
  | _ :: _, _, _, [], _, _, _, _, h, _ => by simp at h
  | _ :: _, [], _, _ :: _, _, _, h, _, _, _ => by simp at h
  | _ :: _, _ :: _, [], _ :: _, _, _, _, h, _, _ => by simp at h
  | [], _ :: _, _, _, _, _, h, _, _, _ => by simp at h
  | [], [], _ :: _, _, _, _, _, h, _, _ => by simp at h
theorem lm_none : ∀ {lm : List (Option Md)} {k : Nat} {vs : List V} {ls : List D}, (lm.zipIdx k).filter (fun p => p.1.isSome) = [] → lentR lm vs ls = []
  | [], _, _, _, _ => by unfold lentR; rfl
  | some m :: l, k, vs, ls, h => by
    rw [List.zipIdx_cons, List.filter_cons_of_pos rfl] at h
    cases h
  | none :: l, k, vs, ls, h => by
    rw [List.zipIdx_cons, List.filter_cons_of_neg (by simp)] at h
    cases vs with
    | nil => unfold lentR; rfl
    | cons v vs => exact lm_none (lm := l) (vs := vs) (ls := ls) h
theorem lm_one : ∀ {lm : List (Option Md)} {k j : Nat} {vs : List V} {l0 : D}, vs.length = lm.length → ((lm.zipIdx k).filter (fun p => p.1.isSome)).map (·.2) = [j] → ∃ v m, vs[j - k]? = some v ∧ lm[j - k]? = some (some m) ∧ k ≤ j ∧ lentR lm vs [l0] = [(v, l0, m)]
  | [], _, _, _, _, _, h => by cases h
  | some m :: l, k, j, v :: vs, l0, hl, h => by
    rw [List.zipIdx_cons, List.filter_cons_of_pos rfl, List.map_cons] at h
    obtain ⟨h1, h2⟩ := List.cons.inj h
    have h1 : k = j := h1
    subst h1
    have h3 := List.map_eq_nil_iff.mp h2
    refine ⟨v, m, by simp, by simp, Nat.le_refl _, ?_⟩
    show (v, l0, m) :: lentR l vs [] = _
    rw [lm_none h3]
  | none :: l, k, j, v :: vs, l0, hl, h => by
    rw [List.zipIdx_cons, List.filter_cons_of_neg (by simp)] at h
    obtain ⟨v', m, h1, h2, h3, h4⟩ := lm_one (lm := l) (vs := vs) (l0 := l0) (by simpa using hl) h
    have e : j - k = (j - (k + 1)) + 1 := by omega
    refine ⟨v', m, ?_, ?_, by omega, h4⟩
    · rw [e]; simpa using h1
    · rw [e]; simpa using h2
  | some _ :: _, _, _, [], _, hl, _ => by simp at hl
  | none :: _, _, _, [], _, hl, _ => by simp at hl
/-- the lent roots at the end -/
theorem end_rep {md : List Md} {kp : List Nat} {σ : L2.St} {en : Sl} {ts : List Root} {H : Hp} {lm : List (Option Md)} {vs : List V} {ls : List D} {v : V} {r : D} {rm : Md} (hk : kp = lnOf lm) (h1 : kp.length ≤ 1) (hl : vs.length = lm.length)
    (R : RepS md σ en ((v, r, rm) :: ts) H) (hσ : ∀ j ∈ kp, σ[j]? = (vs[j]?).map some) (hm : ∀ j ∈ kp, md[j]? = (lm[j]?).join) (e : readAll kp en = some ls) : Rep ((v, r, rm) :: (lentR lm vs ls ++ ts)) H := by
  match kp, h1 with
  | [], _ =>
    cases e
    have : lentR lm vs [] = [] := by
      unfold lnOf at hk
      exact lm_none (k := 0) (List.map_eq_nil_iff.mp hk.symm)
    rw [this]
    obtain ⟨rs, S, raw⟩ := R
    exact raw.drop
  | [j], _ =>
    obtain ⟨d, e1, e2⟩ := Option.bind_eq_some_iff.mp (show ((rdS en j).bind fun d => (readAll [] en).map (d :: ·)) = some ls from e)
    cases e2
    obtain ⟨v', m, q1, q2, _, q4⟩ := lm_one (l0 := d) hl hk.symm
    obtain ⟨w, m', rs', k1, k2, k3, _⟩ := R.open e1
    have s := hσ j (List.mem_singleton.mpr rfl)
    rw [k1, show vs[j]? = some v' from q1] at s
    cases s
    have m2 := hm j (List.mem_singleton.mpr rfl)
    rw [k2, show lm[j]? = some (some m) from q2] at m2
    cases m2
    rw [q4]
    have p : ((v', d, m) :: (rs' ++ (v, r, rm) :: ts)).Perm (rs' ++ ((v, r, rm) :: ([(v', d, m)] ++ ts))) := by
      refine List.Perm.trans (List.Perm.cons _ perm_mid) ?_
      refine List.Perm.trans (.swap _ _ _) ?_
      refine List.Perm.trans (List.Perm.cons _ perm_mid.symm) ?_
      exact perm_mid.symm
    exact k3.sub p
  | _ :: _ :: _, h => exact absurd h (by simp)
end Dt
end
section
set_option Elab.async false
set_option linter.all false
set_option maxRecDepth 100000
set_option maxHeartbeats 4000000
/-! Defs: the checker is sound; the program's levels. -/
namespace Dt
open PySem PySem.Spec PyProof.Rows L2
/-- a def by its body, called where no guard runs -/
theorem fn_G {P : Program} {w : World} {K : PySem.W.Frag} {mg : Str → Option Value} {base : Heap} {k : Nat} {f : Addr} {x qual : Str} {params : Arguments} {body : List Stmt} {scope : Scope} {fd : FuncData} {N ps : List Str} {sp : List V → Hp → VK → Prop}
    (F : FunD K x qual params body scope [] [] f fd) (S : FnScope N ps scope) (len : ∀ vs H Q, sp vs H Q → vs.length = ps.length)
    (hbody : ∀ (cdv : Value) (A : Around) (outer : List Env) (s : Shared) (H : Hp) (vs : List V) (Q : VK), A.guards = some [] → Room k (A.deeper (envOfC qual scope s.heap.objs.size f cdv)) → sp vs H Q →
      ∃ t, PSs (cxOf CX0 P w K mg base N qual scope f cdv A outer s H fun _ _ _ => False) body t ∧ t { nx := fun _ H' => Q .non H', rt := Q } (start N vs) H) : FnG P w K mg base (k + 1) f fd ps sp := by
  obtain ⟨oc, od, dV, kV, doc, pm, an, cdv, ct, osl, rfl, lk, hcd, _, _⟩ := F.ex
  refine ⟨len, fun A outer s H args us vs Q room gd en0 bnd rel want => ?_⟩
  have inK : K.In s.heap := en0.mod.kin.keeps fun b o e => (en0.bs b o e).1
  have lim := en0.mod.nolimit.keeps fun b o e => (en0.bs b o e).1
  have kinds : ∀ y ∈ ps.zip us, scope.names.lookup y.1 = some .local ∨ (scope.names.lookup y.1 = some .cell ∧ ((cellsFrom (s.heap.objs.size + 1) scope.names []).lookup y.1).isSome = true) := by
    rintro ⟨n, v⟩ hy
    exact (S.par n (List.of_mem_zip hy).1).imp id fun q => ⟨q, PySem.W.cellsFrom_some _ _ _ (.inl q)⟩
  refine codeAny_call_function room.depth (inK _ _ lk) rfl S.co S.gen rfl (PySem.W.codeRec_of inK hcd) (bnd _ _ _ _ (wpAny_newFunctionEnv_cells S.kind kinds fun env he s1 ic => ?_))
  subst he
  refine ⟨lim.keeps ic.toInCall.keep, codeAny_func ?_⟩
  obtain ⟨t, ht, hq⟩ := hbody cdv A outer s H vs Q gd (room.deeper _) want
  have I : Inv (cxOf CX0 P w K mg base N qual scope f cdv A outer s H fun _ _ _ => False) [] (start N vs) H s1 := inv_start S room.hd en0 (len _ _ _ want) rel ic
  refine wpAny_mono (ht.run [] s1 (start N vs) H _ I hq) (fun fl s' hs => ?_) fun e s' hs => hs
  match fl, hs with
  | .ret u, ⟨v, σ', H', J, rv, q⟩ => exact ⟨v, H', J.os, J.bare, J.base, J.hok, rv, q⟩
  | .next, ⟨σ', H', J, q⟩ => exact ⟨V.non, H', J.os, J.bare, J.base, J.hok, rfl, q⟩
  | .brk, ⟨_, _, _, q⟩ => exact (show False from q).elim
  | .cont, ⟨_, _, _, q⟩ => exact (show False from q).elim
theorem vis_loc {C : Ck} {x : Str} (h : vis C x = true) (nf : ∀ y ∈ C.sc.names, y.2 ≠ .free) : C.sc.names.lookup x = some .local ∨ C.sc.names.lookup x = some .cell := by
  unfold vis at h
  split at h
  · exact .inl (by assumption)
  · exact .inr (by assumption)
  · rename_i e
    exact absurd rfl (nf _ (PySem.mem_of_lookup e))
  · cases h
theorem lmOk_get : ∀ {lm : List (Option Md)} {md : List Md} {kp : List Nat} {i j : Nat} {m : Md}, lmOk i lm md kp = true → lm[j]? = some (some m) → md[j]? = some m
  | [], _, _, _, _, _, _, e => by simp at e
  | o :: l, [], _, _, _, _, h, _ => by cases h
  | o :: l, m0 :: md, kp, i, 0, m, h, e => by
    have e : o = some m := by simpa using e
    subst e
    have := of_decide_eq_true (Bool.and_eq_true_iff.mp (Bool.and_eq_true_iff.mp (show (_ && lmOk (i + 1) l md kp) = true from h)).1).1
    simp [this]
  | o :: l, m0 :: md, kp, i, j + 1, m, h, e => by
    have := lmOk_get (j := j) (Bool.and_eq_true_iff.mp (show (_ && lmOk (i + 1) l md kp) = true from h)).2 (by simpa using e)
    simpa using this
theorem lnOf_mem : ∀ {lm : List (Option Md)} {k j : Nat}, j ∈ ((lm.zipIdx k).filter (fun p => p.1.isSome)).map (·.2) → k ≤ j ∧ ∃ m, lm[j - k]? = some (some m)
  | [], _, _, h => by cases h
  | o :: l, k, j, h => by
    rw [List.zipIdx_cons] at h
    cases o with
    | none =>
      rw [List.filter_cons_of_neg (by simp)] at h
      obtain ⟨h1, m, h2⟩ := lnOf_mem h
      refine ⟨by omega, m, ?_⟩
      have e : j - k = (j - (k + 1)) + 1 := by omega
      rw [e]; simpa using h2
    | some m0 =>
      rw [List.filter_cons_of_pos rfl, List.map_cons] at h
      rcases List.mem_cons.mp h with e | h
      · have e : j = k := e
        subst e
        exact ⟨Nat.le_refl _, m0, by simp⟩
      · obtain ⟨h1, m, h2⟩ := lnOf_mem h
        refine ⟨by omega, m, ?_⟩
        have e : j - k = (j - (k + 1)) + 1 := by omega
        rw [e]; simpa using h2
/-- what the levels stand on: the defs' objects, the names -/
structure Facts (P0 : Prg) (ds : List DefC) (bn : List Str) (K : PySem.W.Frag) (mg : Str → Option Value) : Prop where
  fns : ∀ i : Nat, P0.fns[i]? = (ds[i]?).map DefC.fn
  ok : ∀ d ∈ ds, defOk (ds.map DefC.sig) bn d = true
  bl : ∀ x ∈ bn, mg x = none
  obj : ∀ (i : Nat) d, ds[i]? = some d → ∃ a fd, FunD K d.name d.name d.params d.body d.scope [] [] a fd ∧ mg d.name = some (.ref a) ∧ Binds K fd d.ps []
theorem levels {P0 : Prg} {ds : List DefC} {bn : List Str} {P : Program} {w : World} {K : PySem.W.Frag} {mg : Str → Option Value} {base : Heap} (wf : Nat) (T : Facts P0 ds bn K mg) : ∀ (k : Nat) (i : Nat) (d : DefC) (a : Addr) (fd : FuncData), ds[i]? = some d →
    FunD K d.name d.name d.params d.body d.scope [] [] a fd → FnG P w K mg base k a fd d.ps (spF (run P0 wf k) i d.sig) := by
  intro k
  induction k with
  | zero =>
    intro i d a fd hd F
    have hq := T.ok d (List.mem_of_getElem? hd)
    unfold defOk at hq
    simp only [Bool.and_eq_true, decide_eq_true_eq] at hq
    have hps : d.ps.length = d.fn.np := by
      have := hq.1.1.1.1.1.1.1.1.1.1.1.1.1.1.1
      exact this
    exact ⟨fun vs H Q h => h.1.trans hps.symm, fun A outer s H args us vs Q _ _ _ _ _ h => by
      obtain ⟨_, ds', roots, _, _, h⟩ := h
      exact (show False from h).elim⟩
  | succ k ih =>
    intro i d a fd hd F
    have hq := T.ok d (List.mem_of_getElem? hd)
    unfold defOk at hq
    simp only [Bool.and_eq_true, decide_eq_true_eq, Bool.not_eq_true', List.all_eq_true] at hq
    obtain ⟨⟨⟨⟨⟨⟨⟨⟨⟨⟨⟨⟨⟨⟨⟨q1, q2⟩, q3⟩, q4⟩, q5⟩, q6⟩, q7⟩, q8⟩, q9⟩, q10⟩, q11⟩, q12⟩, q13⟩, q14⟩, q15⟩, q16⟩ := hq
    have S : FnScope d.N d.ps d.scope := ⟨fn_ q9, q10, q11, q12, q13, fun x hx => vis_loc (q14 x hx) q15, q15⟩
    refine fn_G F S (fun vs H Q h => h.1.trans q1.symm) fun cdv A outer s H vs Q gd room h => ?_
    obtain ⟨nxm, hc⟩ : ∃ nxm, chkB d.fn.body (bxOf d) (ckOf (ds.map DefC.sig) bn d) d.md d.body = some nxm := by
      cases hc : chkB d.fn.body (bxOf d) (ckOf (ds.map DefC.sig) bn d) d.md d.body with
      | none => rw [hc] at q16; cases q16
      | some r => exact ⟨r, rfl⟩
    have XO : XOk (ckOf (ds.map DefC.sig) bn d) ⟨run P0 wf k, wf, P0.sub⟩ (Cx.nox (cxOf CX0 P w K mg base d.N d.name d.scope a cdv A outer s H fun _ _ _ => False)) := by
      refine ⟨rfl, q12, rfl, rfl, gd, ?_, fun x hx => T.bl x hx, fun x hx => rfl, rfl, fun f0 d0 e0 => ?_⟩
      · have := room.un
        show (A.deeper (envOfC d.name d.scope s.heap.objs.size a cdv)).units + 200 < cLine
        omega
      · have e1 : ((ds.map DefC.sig)[f0]? : Option FnC) = some d0 := e0
        rw [List.getElem?_map] at e1
        obtain ⟨d1, e2, rfl⟩ := Option.map_eq_some_iff.mp e1
        obtain ⟨a1, fd1, F1, m1, b1⟩ := T.obj f0 d1 e2
        have hq1 := T.ok d1 (List.mem_of_getElem? e2)
        unfold defOk at hq1
        simp only [Bool.and_eq_true, decide_eq_true_eq] at hq1
        exact ⟨a1, k, fd1, d1.ps, m1, F1.kp, b1, hq1.1.1.1.1.1.1.1.1.1.1.1.1.1.1.1, ih f0 d1 a1 fd1 e2 F1, room⟩
    obtain ⟨km, body⟩ := (sndS ⟨run P0 wf k, wf, P0.sub⟩ d.fn.body).blk XO (fun j hj => rfl) hc
    refine ⟨_, PSs.nox body, ?_⟩
    obtain ⟨hv, ds', roots, hl, rep, res⟩ := h
    have hv : vs.length = d.fn.np := hv
    have hl : ds'.length = d.fn.np := hl
    have e : run P0 wf (k + 1) i ds' = endF d.fn.ln (evS ⟨run P0 wf k, wf, P0.sub⟩ d.fn.body (start0 d.fn.ns ds')) := by
      rw [run, T.fns i, hd]
      show (if ds'.length = d.fn.np then _ else _) = _
      rw [if_pos hl]
    rw [e] at res
    have SRs := start_rep (vs := vs) (ds := ds') (hv.trans q2.symm) (hl.trans q2.symm) (by rw [q2, q4]; exact q5) q8
    have ev : L2.start d.N vs = vs.map some ++ List.replicate (d.md.length - d.lm.length) none := by
      unfold L2.start
      rw [q3, q4, hv, q2]
    have ed : start0 d.fn.ns ds' = ds'.map some ++ List.replicate (d.md.length - d.lm.length) none := by
      unfold start0
      rw [q4, hl, q2]
    rw [← ev, ← ed] at SRs
    have mem : ∀ j ∈ d.fn.ln, ∃ m, d.lm[j]? = some (some m) := fun j hj => by
      rw [q6] at hj
      obtain ⟨_, m, h⟩ := lnOf_mem (k := 0) hj
      exact ⟨m, by simpa using h⟩
    have sσ : ∀ {σ' : L2.St}, Keep d.fn.ln (L2.start d.N vs) σ' → ∀ j ∈ d.fn.ln, σ'[j]? = (vs[j]?).map some := fun kσ j hj => by
      obtain ⟨m, hm⟩ := mem j hj
      have lt : j < vs.length := by
        rw [hv, ← q2]
        exact (List.getElem?_eq_some_iff.mp hm).1
      rw [kσ j hj, ev, List.getElem?_append_left (by simpa using lt), List.getElem?_map]
    have sm : ∀ {md' : List Md}, KeepM (bxOf d) md' → ∀ j ∈ d.fn.ln, md'[j]? = (d.lm[j]?).join := fun kmd j hj => by
      obtain ⟨m, hm⟩ := mem j hj
      rw [kmd j hj, hm]
      exact lmOk_get q8 hm
    refine ⟨start0 d.fn.ns ds', roots, ⟨_, SRs, rep⟩, ?_⟩
    cases ex : evS ⟨run P0 wf k, wf, P0.sub⟩ d.fn.body (start0 d.fn.ns ds') with
    | nx en =>
      rw [ex] at res
      unfold endF at res
      simp only at res
      cases hr : readAll d.fn.ln en with
      | none => rw [hr] at res; exact (show False from res).elim
      | some ls =>
        rw [hr] at res
        cases nxm with
        | none => trivial
        | some md' =>
          intro σ' H' kσ R
          rw [hc] at q16
          have erm : d.fn.rm = .F := of_decide_eq_true (show decide (d.fn.rm = .F) = true from q16)
          refine res .non H' ?_
          have R2 : RepS md' σ' en ((.non, .none, d.fn.rm) :: roots) H' := by
            rw [erm]
            exact R.flat fun Z => .non
          exact end_rep (kp := d.fn.ln) q6 q7 (hv.trans q2.symm) R2 (sσ kσ) (sm (km md' rfl)) hr
    | ret d0 en =>
      rw [ex] at res
      unfold endF at res
      simp only at res
      cases hr : readAll d.fn.ln en with
      | none => rw [hr] at res; exact (show False from res).elim
      | some ls =>
        rw [hr] at res
        intro v σ' H' md' kσ kmd R
        exact res v H' (end_rep (kp := d.fn.ln) q6 q7 (hv.trans q2.symm) R (sσ kσ) (sm kmd) hr)
    | brk en => rw [ex] at res; exact (show False from res).elim
    | cnt en => rw [ex] at res; exact (show False from res).elim
    | exc c fs en =>
      rw [ex] at res
      unfold endF at res
      simp only at res
      cases hr : readAll d.fn.ln en with
      | none => rw [hr] at res; exact (show False from res).elim
      | some ls => rw [hr] at res; exact (show False from res).elim
    | bad => rw [ex] at res; exact (show False from res).elim
end Dt
end
section
set_option Elab.async false
set_option linter.all false
set_option maxRecDepth 100000
set_option maxHeartbeats 4000000
/-! The law's own call. -/
namespace Dt
open PySem PySem.Spec PyProof.Rows L2
/-- the written part holds no list -/
def noList (K : PySem.W.Frag) : Bool := K.all fun p => match p.2.cls with
  | .type n => !(n == "list")
  | _ => true
theorem noList_ {K : PySem.W.Frag} (h : noList K = true) {a : Addr} {o : Obj} (e : K.lookup a = some o) : o.cls ≠ .type "list" := by
  intro q
  have m : (a, o) ∈ K := He.lookup_mem e
  have z := List.all_eq_true.mp h (a, o) m
  simp only [q] at z
  cases z
theorem law_callG {P : Program} {w : World} {K : PySem.W.Frag} {mg mb : Str → Option Value} {k : Nat} {fa a : Addr} {fd : FuncData} {x : Str} {sp : List V → Hp → VK → Prop} {s1 : Shared} {vs : List Value} {ns : List Int}
    (inK : K.In s1.heap) (g1 : s1.heap.Ns mainGlobals mg) (g2 : s1.heap.Ns builtinsNs mb) (g3 : ∀ x : Str, x ≠ "__name__" → mb x = bootBuiltins x) (g4 : s1.heap.NoLimit) (g5 : s1.gens = #[])
    (at1 : s1.heap.get? a = some { cls := .type "list", data := .seq vs.toArray }) (isI : IntsAre vs ns) (sz : ns.length ≤ sizeLine) (room : Room k callerA) (nl : noList K = true)
    (F : ∀ base : Heap, K.In base → base.Ns mainGlobals mg → FnG P w K mg base k fa fd [x] sp) (bnd : ∀ (s : Shared) (u : Value), BindsTo s fd ⟨[u], []⟩ [(x, u)])
    (want : ∀ (H : Hp) (o : Obj), H a = some (.frz o (.lst (ns.map V.int))) → sp [.ref a] H fun v _ => v = .bl true) :
    codeAny (model P w) callerA (.call (.ref fa) ⟨[.ref a], []⟩) (fun r s' => r = .ok (.ret (.bool true)) ∧ OldK s1.heap s'.heap ∧ s'.os = s1.os ∧ AllBare s'.gens) s1 := by
  have rv := vals_ints isI
  have noK : K.lookup a = none := by
    cases hk : K.lookup a with
    | none => rfl
    | some o =>
      have e := inK a o hk
      rw [at1] at e
      cases e
      exact absurd rfl (noList_ nl hk)
  generalize hob : ({ cls := .type "list", data := .seq vs.toArray } : Obj) = ob at at1
  let H : Hp := fun b => if b = a then some (.frz ob (.lst (ns.map V.int))) else none
  have Ha : H a = some (.frz ob (.lst (ns.map V.int))) := if_pos rfl
  have Hn : ∀ {b : Addr}, b ≠ a → H b = none := fun h => if_neg h
  have hok : HOk P w H s1.heap := fun b u z => by
    by_cases e : b = a
    · subst e
      rw [Ha] at z
      cases z
      subst hob
      exact ⟨at1, by rw [List.length_map]; exact sz, vs, _, rv, at1⟩
    · rw [Hn e] at z; cases z
  have low : ∀ {b : Addr} {o : Obj}, s1.heap.get? b = some o → b ≠ a → (hidT s1.heap H).get? b = some o := fun e n => hidT_get e (Hn n)
  have ns1 : ∀ {b : Addr} {m : Str → Option Value}, s1.heap.Ns b m → (hidT s1.heap H).Ns b m := by
    rintro b m ⟨o, es, ep, e, d, r⟩
    refine ⟨o, es, ep, low e fun z => ?_, d, r⟩
    subst z
    rw [at1] at e
    cases e
    subst hob
    cases d
  have hK2 : K.In (hidT s1.heap H) := fun b o e => low (inK b o e) fun z => by
    rw [z, noK] at e
    cases e
  have hM : Mod K mg (hidT s1.heap H) := ⟨hK2, ns1 g1, ⟨mb, ns1 g2, g3⟩, g4.elim fun mc q => ⟨mc, ns1 q.1, q.2⟩⟩
  have en0 : Env0 P w K mg (hidT s1.heap H) callerA [] s1 H := ⟨rfl, hM, fun b o e => of_hidT e, Nat.le_of_eq (hidT_size _ _), trivial, fun b q => (nomatch (show b ∈ ([] : List Addr) from q)), hok, .of_eq g5⟩
  refine codeAny_mono ((F _ hK2 (ns1 g1)).run callerA [] s1 H ⟨[.ref a], []⟩ [.ref a] [.ref a] _ room rfl en0 (bnd s1 (.ref a)) (.cons rfl .nil) (want H ob Ha)) fun r s' h => ?_
  match r, h with
  | .error e, h => exact (show False from h).elim
  | .ok .next, h => exact (show False from h).elim
  | .ok .brk, h => exact (show False from h).elim
  | .ok .cont, h => exact (show False from h).elim
  | .ok (.ret u), ⟨v, H', os, bare, un, hok2, rr, q⟩ =>
    have q : v = .bl true := q
    subst q
    cases (show u = Value.bool true from rr)
    refine ⟨rfl, OldK.of_keep fun b o e => ?_, os, bare⟩
    by_cases z : b = a
    · subst z
      have fz := un.frzs b ob _ Ha
      have h2 := (hok2 b _ fz).1
      rw [at1] at e
      cases e
      exact h2
    · exact un.keep b o e (Hn z) (fun q => nomatch (show b ∈ ([] : List Addr) from q)) (fun q => nomatch q)
theorem walk_G {l : PySem.W.OpenLaw} {n k : Nat} {q : Program} {loose : List Str} {XP : (Str → Option Value) → Heap → Prop} {YP : World → Heap → Prop} {d : DefRec} {x : Str}
    (hn : l.most = some n) (hn2 : n ≤ sizeLine) (hdf : d.params.defaults = []) (room : Room k callerA)
    (F : ∀ (w : World) (mg : Str → Option Value) (fa : Addr) (h : Heap), YP w h → h.Ns mainGlobals mg → mg d.name = some (.ref fa) →
      ∃ (K : PySem.W.Frag) (fd : FuncData) (sp : List V → Hp → VK → Prop), K.In h ∧ noList K = true ∧ (∀ (s : Shared) (u : Value), BindsTo s fd ⟨[u], []⟩ [(x, u)]) ∧
        (∀ (H : Hp) (a : Addr) (ns : List Int) (o : Obj), ns.length ≤ n → H a = some (.frz o (.lst (ns.map V.int))) → sp [.ref a] H fun v _ => v = .bl true) ∧
        ∀ base : Heap, K.In base → base.Ns mainGlobals mg → FnG l.prog w K mg base k fa fd [x] sp) :
    PySem.W.WalkO q loose XP YP l.row.toRowW d [] (fun f vs => PySem.call f vs) := by
  refine Att.attach_call hn hdf fun w s₀ s₁ mg mb fa o pm cd doc a vs ns G Y ho hd hcd hmg hobj hints hlen hg => ?_
  obtain ⟨K, fd, sp, inK, nl, bnd, want, fnG⟩ := F w mg fa _ Y G.T.g hmg
  exact law_callG inK G.T.g G.T.b G.T.builtins G.T.nolimit hg hobj hints (Nat.le_trans hlen hn2) room nl fnG bnd fun H o e => want H a ns o hlen e
/-- the law by its meaning -/
theorem law_want {P0 : Prg} {wf k i : Nat} {d : DefC} {ns : List Int} (h1 : d.fn.np = 1) (hlm : d.lm = [none]) (hrm : d.fn.rm = .F) (h : ∃ ls, run P0 wf k i [.list (ns.map .int)] = .ret (.bool true) ls) (H : Hp) (a : Addr) (o : Obj) (e : H a = some (.frz o (.lst (ns.map V.int)))) :
    spF (run P0 wf k) i d.sig [.ref a] H fun v _ => v = .bl true := by
  obtain ⟨ls, h⟩ := h
  refine ⟨h1.symm, [.list (ns.map .int)], [], h1.symm, ?_, ?_⟩
  · show Rep (argR d.lm [.ref a] [.list (ns.map .int)] ++ []) H
    rw [hlm]
    refine ⟨fun _ => False, [], .cons (f := []) ⟨.lst (.inr ⟨o, e⟩) ?_, rfl⟩ .nil, List.nodup_nil, (fun _ q => nomatch q), fun _ q => q.elim⟩
    induction ns with
    | nil => exact .nil
    | cons n ns ih =>
      have aux : ∀ ns : List Int, RdA H (fun _ => False) (ns.map V.int) (ns.map PyData.int) := by
        intro ns
        induction ns with
        | nil => exact .nil
        | cons n ns ih => exact .cons (.int n) ih
      exact aux _
  · rw [h]
    intro v H' R
    have R : Rep ((v, .bool true, d.fn.rm) :: (lentR d.lm [.ref a] ls ++ [])) H' := R
    rw [hrm] at R
    obtain ⟨Z, fp, z, w⟩ := R.head
    exact vw_bl w.vw
end Dt
end
section
set_option Elab.async false
set_option linter.all false
set_option maxRecDepth 100000
set_option maxHeartbeats 4000000
/-! From the head's facts to the law. -/
namespace Dt
open PySem PySem.Spec PyProof.Rows L2
def DefC.dd (d : DefC) : He.DefD := ⟨(d.name, none), d.name, d.name, d.params, d.body, d.scope, [], []⟩
def DefC.Bnd (d : DefC) : Prop := ∀ (kV doc pm : Value) (an : Option Addr) (cdv ct : Value) (us : List Value), us.length = d.ps.length → bindArgs (PySem.W.fnOf d.name d.name d.params d.body d.scope .none kV doc pm an cdv ct) ⟨us, []⟩ = pure (d.ps.zip us)
theorem def_of {ds : List DefC} {fa : List He.Fa} {K : PySem.W.Frag} (c : He.SaysD fa (ds.map DefC.dd) K) {d : DefC} (hd : d ∈ ds) : ∃ fd, FunD K d.name d.name d.params d.body d.scope [] [] (He.ga K d.name) fd :=
  c.defs (d := d.dd) (List.mem_map.mpr ⟨d, hd, rfl⟩)
theorem facts_of {P0 : Prg} {ds : List DefC} {bn : List Str} {fa : List He.Fa} {K : PySem.W.Frag} {h : Heap} {mg : Str → Option Value} (hf : P0.fns = ds.map DefC.fn) (c : He.SaysD fa (ds.map DefC.dd) K) (inK : K.In h) (G : h.Ns mainGlobals mg)
    (ok : ds.all (fun d => defOk (ds.map DefC.sig) bn d) = true) (bl : ∀ x ∈ bn, He.Fa.free x ∈ fa) (gl : ∀ d ∈ ds, He.Fa.glo d.name ∈ fa) (bd : ∀ d ∈ ds, d.Bnd) : Facts P0 ds bn K mg where
  fns := fun i => by rw [hf, List.getElem?_map]
  ok := fun d hd => List.all_eq_true.mp ok d hd
  bl := fun x hx => He.free_ok inK G (c.facts (bl x hx))
  obj := fun i d e => by
    have hd := List.mem_of_getElem? e
    obtain ⟨fd, F⟩ := def_of c hd
    exact ⟨_, fd, F, He.glo_ok inK G (c.facts (gl d hd)), F.bindsN (bd d hd)⟩
/-- the goal that the head leaves -/
theorem law_end {l : PySem.W.OpenLaw} {q : Program} {loose : List Str} {XP : (Str → Option Value) → Heap → Prop} {d0 : DefRec} {ds : List DefC} {bn : List Str} {fa : List He.Fa} {m : Nat} {ex : PySem.W.Frag → Bool} {i : Nat} {d : DefC} {n k : Nat} {x : Str} (P0 : Prg) (wf : Nat)
    (hn : l.most = some n) (hn2 : n ≤ sizeLine) (hdf : d0.params.defaults = []) (room : Room k callerA) (hname : d0.name = d.name) (hex : ∀ K, ex K = true → noList K = true)
    (hf : P0.fns = ds.map DefC.fn) (ok : ds.all (fun d => defOk (ds.map DefC.sig) bn d) = true) (bl : ∀ x ∈ bn, He.Fa.free x ∈ fa) (gl : ∀ d ∈ ds, He.Fa.glo d.name ∈ fa) (bd : ∀ d ∈ ds, d.Bnd)
    (hi : ds[i]? = some d) (hps : d.ps = [x]) (h1 : d.fn.np = 1) (hlm : d.lm = [none]) (hrm : d.fn.rm = .F)
    (main : ∀ ns : List Int, ns.length ≤ n → ∃ ls, run P0 wf k i [.list (ns.map .int)] = .ret (.bool true) ls) :
    PySem.W.WalkO q loose XP (He.hookX m fa (ds.map DefC.dd) [] [] ex).says l.row.toRowW d0 [] (fun f vs => PySem.call f vs) := by
  refine walk_G (k := k) (x := x) hn hn2 hdf room fun w mg fa0 h Y G hmg => ?_
  obtain ⟨K, inK, c⟩ := Y
  have hd := List.mem_of_getElem? hi
  obtain ⟨fd, F⟩ := def_of c.t.d hd
  have e : mg d.name = some (.ref (He.ga K d.name)) := He.glo_ok inK G (c.t.d.facts (gl d hd))
  rw [hname, e] at hmg
  cases hmg
  refine ⟨K, fd, _, inK, hex K c.more, fun s u => ?_, fun H a ns o hl e => law_want h1 hlm hrm (main ns hl) H a o e, fun base inB GB => ?_⟩
  · have := F.bindsA (bd d hd) s [u] (by rw [hps]; rfl)
    rw [hps] at this
    exact this
  · have := levels (P := l.prog) (w := w) (base := base) wf (facts_of (P0 := P0) hf c.t.d inB GB ok bl gl bd) k i d _ fd hi F
    rw [hps] at this
    exact this
end Dt
end
section
set_option Elab.async false
set_option linter.all false
set_option maxRecDepth 100000
set_option maxHeartbeats 4000000
/-! Reckoning with the meaning: equations for rewriting, loops. -/
namespace Dt
open PySem PySem.Spec PyProof.Rows L2
section
variable {V : Ev} {σ : Sl}
theorem evT_op {o fr as} : evT V (.op o fr as) σ = (evE V (.op o fr as) σ).bind fun d σ => ofO (truthy d) σ := evT_gen rfl σ
theorem evT_call {f as} : evT V (.call f as) σ = (evE V (.call f as) σ).bind fun d σ => ofO (truthy d) σ := evT_gen rfl σ
theorem evT_var {i} : evT V (.var i) σ = (evE V (.var i) σ).bind fun d σ => ofO (truthy d) σ := evT_gen rfl σ
theorem evT_bl {b} : evT V (.bl b) σ = .ok b σ := by rw [evT_gen rfl, evE]; rfl
theorem evT_and {a b} : evT V (.and a b) σ = (evT V a σ).bind fun c σ => if c then evT V b σ else .ok false σ := by rw [evT]
theorem evT_or {a b} : evT V (.or a b) σ = (evT V a σ).bind fun c σ => if c then .ok true σ else evT V b σ := by rw [evT]
theorem evT_not {a} : evT V (.not a) σ = (evT V a σ).bind fun c σ => .ok (!c) σ := by rw [evT]
theorem evE_var {i} : evE V (.var i) σ = ofO (rdS σ i) σ := by rw [evE]
theorem evE_non : evE V .non σ = .ok .none σ := by rw [evE]
theorem evE_bl {b} : evE V (.bl b) σ = .ok (.bool b) σ := by rw [evE]
theorem evE_int {i} : evE V (.int i) σ = .ok (.int i) σ := by rw [evE]
theorem evE_str {x} : evE V (.str x) σ = .ok (.str x) σ := by rw [evE]
theorem evE_op {o fr as} : evE V (.op o fr as) σ = (evL V as σ).bind fun ds σ => ofO (opR o fr ds) σ := by rw [evE]
theorem evE_and {a b} : evE V (.and a b) σ = (evE V a σ).bind fun x σ => match x with | .bool true => evE V b σ | .bool false => .ok (.bool false) σ | _ => .bad := by
  rw [evE]
  all_goals congr 1
theorem evE_or {a b} : evE V (.or a b) σ = (evE V a σ).bind fun x σ => match x with | .bool true => .ok (.bool true) σ | .bool false => evE V b σ | _ => .bad := by
  rw [evE]
  all_goals congr 1
theorem evE_not {a} : evE V (.not a) σ = (evE V a σ).bind fun x σ => match x with | .bool b => .ok (.bool (!b)) σ | _ => .bad := by
  rw [evE]
  all_goals congr 1
theorem evE_ite {t a b} : evE V (.ite t a b) σ = (evT V t σ).bind fun c σ => if c then evE V a σ else evE V b σ := by rw [evE]
theorem evE_tup {as} : evE V (.tup as) σ = (evL V as σ).bind fun ds σ => if ds.length ≤ sizeLine then .ok (.tuple ds) σ else .bad := by rw [evE]
theorem evE_lst {m as} : evE V (.lst m as) σ = (evL V as σ).bind fun ds σ => if ds.length ≤ sizeLine then .ok (.list ds) σ else .bad := by rw [evE]
theorem evE_dsp {ks as} : evE V (.dsp ks as) σ = (evL V as σ).bind fun ds σ => if ks.length = ds.length then .ok (.dict ((ks.map .str).zip ds)) σ else .bad := by rw [evE]
theorem evE_call {f as} : evE V (.call f as) σ = (evL V as σ).bind fun ds σ => callO V.F f (lnts as) ds σ := by rw [evE]
theorem evE_mut {o i as} : evE V (.mut o i as) σ = if isLs σ i then (evL V as σ).bind fun ds σ => mutO o i ds σ else .bad := by rw [evE]
theorem evE_lc {own tg ik it c m e} : evE V (.lc own tg ik it c m e) σ = ((evL V it σ).bind fun ds σ => items1 ik ds σ).bind fun items σ => runG own .list (turnG own tg (evT V c) (app1 (evE V e))) [] items σ := by rw [evE]
theorem evE_dc {own tg ik it c k e} : evE V (.dc own tg ik it c k e) σ = ((evL V it σ).bind fun ds σ => items1 ik ds σ).bind fun items σ => runG own .dict (turnG own tg (evT V c) (put1 (evE V k) (evE V e))) [] items σ := by rw [evE]
/-- the second clause's own loop -/
def inStep (V : Ev) (own1 : List Nat) (tg1 : Tg) (ik1 : Ik) (it1 c1 e : E) (acc : List D) (σ : Sl) : Out (List D) := ((evL V it1 σ).bind fun ds σ => items1 ik1 ds σ).bind fun items1 σ =>
  (loopG (turnG own1 tg1 (evT V c1) (app1 (evE V e))) items1 acc σ).bind fun acc σ => .ok acc (wipeD σ own1)
theorem evE_lc2 {own tg ik it c own1 tg1 ik1 it1 c1 m e} : evE V (.lc2 own tg ik it c own1 tg1 ik1 it1 c1 m e) σ = ((evL V it σ).bind fun ds σ => items1 ik ds σ).bind fun items σ =>
      runG own .list (turnG own tg (evT V c) (inStep V own1 tg1 ik1 it1 c1 e)) [] items σ := by
  rw [evE]
  rfl
theorem evL_nil : evL V .nil σ = .ok [] σ := by rw [evL]
theorem evL_pk {i r} : evL V (.cons (.pk i) r) σ = if (rdS σ i).isSome then (evL V r σ).bind fun ds σ => (ofO (rdS σ i) σ).bind fun d σ => .ok (d :: ds) σ else .bad := by rw [evL]
theorem evL_lnt {i r} : evL V (.cons (.lnt i) r) σ = if (rdS σ i).isSome then (evL V r σ).bind fun ds σ => (ofO (rdS σ i) σ).bind fun d σ => .ok (d :: ds) σ else .bad := by rw [evL]
theorem evL_var {i r} : evL V (.cons (.var i) r) σ = (evE V (.var i) σ).bind fun d σ => (evL V r σ).bind fun ds σ => .ok (d :: ds) σ := evL_cons rfl σ
theorem evL_non {r} : evL V (.cons .non r) σ = (evE V .non σ).bind fun d σ => (evL V r σ).bind fun ds σ => .ok (d :: ds) σ := evL_cons rfl σ
theorem evL_bl {b r} : evL V (.cons (.bl b) r) σ = (evE V (.bl b) σ).bind fun d σ => (evL V r σ).bind fun ds σ => .ok (d :: ds) σ := evL_cons rfl σ
theorem evL_int {b r} : evL V (.cons (.int b) r) σ = (evE V (.int b) σ).bind fun d σ => (evL V r σ).bind fun ds σ => .ok (d :: ds) σ := evL_cons rfl σ
theorem evL_str {b r} : evL V (.cons (.str b) r) σ = (evE V (.str b) σ).bind fun d σ => (evL V r σ).bind fun ds σ => .ok (d :: ds) σ := evL_cons rfl σ
theorem evL_op {o fr as r} : evL V (.cons (.op o fr as) r) σ = (evE V (.op o fr as) σ).bind fun d σ => (evL V r σ).bind fun ds σ => .ok (d :: ds) σ := evL_cons rfl σ
theorem evL_tup {as r} : evL V (.cons (.tup as) r) σ = (evE V (.tup as) σ).bind fun d σ => (evL V r σ).bind fun ds σ => .ok (d :: ds) σ := evL_cons rfl σ
theorem evL_lst {m as r} : evL V (.cons (.lst m as) r) σ = (evE V (.lst m as) σ).bind fun d σ => (evL V r σ).bind fun ds σ => .ok (d :: ds) σ := evL_cons rfl σ
theorem evL_call {f as r} : evL V (.cons (.call f as) r) σ = (evE V (.call f as) σ).bind fun d σ => (evL V r σ).bind fun ds σ => .ok (d :: ds) σ := evL_cons rfl σ
theorem evL_lc {own tg ik it c m e r} : evL V (.cons (.lc own tg ik it c m e) r) σ = (evE V (.lc own tg ik it c m e) σ).bind fun d σ => (evL V r σ).bind fun ds σ => .ok (d :: ds) σ := evL_cons rfl σ
theorem evL_lc2 {own tg ik it c own1 tg1 ik1 it1 c1 m e r} : evL V (.cons (.lc2 own tg ik it c own1 tg1 ik1 it1 c1 m e) r) σ = (evE V (.lc2 own tg ik it c own1 tg1 ik1 it1 c1 m e) σ).bind fun d σ => (evL V r σ).bind fun ds σ => .ok (d :: ds) σ := evL_cons rfl σ
theorem evL_dc {own tg ik it c k e r} : evL V (.cons (.dc own tg ik it c k e) r) σ = (evE V (.dc own tg ik it c k e) σ).bind fun d σ => (evL V r σ).bind fun ds σ => .ok (d :: ds) σ := evL_cons rfl σ
theorem evL_ite {t a b r} : evL V (.cons (.ite t a b) r) σ = (evE V (.ite t a b) σ).bind fun d σ => (evL V r σ).bind fun ds σ => .ok (d :: ds) σ := evL_cons rfl σ
theorem evL_and {a b r} : evL V (.cons (.and a b) r) σ = (evE V (.and a b) σ).bind fun d σ => (evL V r σ).bind fun ds σ => .ok (d :: ds) σ := evL_cons rfl σ
theorem evL_or {a b r} : evL V (.cons (.or a b) r) σ = (evE V (.or a b) σ).bind fun d σ => (evL V r σ).bind fun ds σ => .ok (d :: ds) σ := evL_cons rfl σ
theorem evL_not {a r} : evL V (.cons (.not a) r) σ = (evE V (.not a) σ).bind fun d σ => (evL V r σ).bind fun ds σ => .ok (d :: ds) σ := evL_cons rfl σ
theorem bind_ok {α β : Type} {a : α} {f : α → Sl → Out β} : (Out.ok a σ).bind f = f a σ := id rfl
theorem ofE_ok {α : Type} {a : α} {f : α → Sl → SOut} : SOut.ofE (.ok a σ) f = f a σ := id rfl
theorem ofO_some {α : Type} {a : α} : ofO (some a) σ = .ok a σ := id rfl
theorem next_nx {f : Sl → SOut} : SOut.next (.nx σ) f = f σ := id rfl
theorem next_ret {d : D} {f : Sl → SOut} : SOut.next (.ret d σ) f = .ret d σ := id rfl
theorem rdS_0 {o : Option D} : rdS (o :: σ) 0 = o := id rfl
theorem rdS_s {o : Option D} {i : Nat} : rdS (o :: σ) (i + 1) = rdS σ i := id rfl
theorem evS_seq {a b} : evS V (.seq a b) σ = (evS V a σ).next fun σ => evS V b σ := by rw [evS]
theorem evS_skip : evS V .skip σ = .nx σ := by rw [evS]
theorem evS_frz {i} : evS V (.frz i) σ = .nx σ := by rw [evS]
theorem evS_set {i e} : evS V (.set i e) σ = SOut.ofE (evE V e σ) fun d σ => .nx (σ.set i (some d)) := by rw [evS]
theorem evS_exp {e} : evS V (.exp e) σ = SOut.ofE (evE V e σ) fun _ σ => .nx σ := by rw [evS]
theorem evS_ret {e} : evS V (.ret e) σ = SOut.ofE (evE V e σ) fun d σ => .ret d σ := by rw [evS]
theorem evS_ite {t a b} : evS V (.ite t a b) σ = SOut.ofE (evT V t σ) fun c σ => if c then evS V a σ else evS V b σ := by rw [evS]
theorem evS_par {tg as} : evS V (.par tg as) σ = SOut.ofE (evL V as σ) fun ds σ => (match asgT tg (.tuple ds) σ with | some σ => .nx σ | none => .bad) := by
  rw [evS]
  all_goals congr 1
theorem evS_putS {i k e} : evS V (.put .set i k e) σ = SOut.ofE (evE V e σ) fun d σ => if (rdS σ i).isSome then SOut.ofE (evE V k σ) fun kd σ => SOut.ofE (mutO .set i [kd, d] σ) fun _ σ => .nx σ else .bad := by rw [evS]
theorem evS_putA {i k e} : evS V (.put .augAdd i k e) σ = if (rdS σ i).isSome then SOut.ofE (evE V k σ) fun kd σ => SOut.ofE (evE V e σ) fun d σ => SOut.ofE (mutO .augAdd i [kd, d] σ) fun _ σ => .nx σ else .bad := by
  rw [evS]
  intro z
  cases z
def forF (V : Ev) (tg : Tg) (b : S) (d : D) (σ : Sl) : SOut := match asgT tg d σ with
  | some σ => evS V b σ
  | none => .bad
theorem evS_for {tg ik it b} : evS V (.for tg ik it b) σ = SOut.ofE (evL V it σ) fun ds σ => SOut.ofE (items1 ik ds σ) fun items σ => forLoop (forF V tg b) items σ := by
  rw [evS]
  all_goals congr 1
/-- a for whose turns end as usual, with an invariant -/
theorem for_inv {f : D → Sl → SOut} (Inv : List D → Sl → Prop) : ∀ {items : List D} {σ : Sl}, Inv items σ → (∀ d rest σ, (d :: rest).length ≤ items.length → Inv (d :: rest) σ → ∃ σ', (f d σ = .nx σ' ∨ f d σ = .cnt σ') ∧ Inv rest σ') → ∃ σ', forLoop f items σ = .nx σ' ∧ Inv [] σ'
  | [], σ, h, _ => ⟨σ, rfl, h⟩
  | d :: ds, σ, h, step => by
    obtain ⟨σ1, e, h1⟩ := step d ds σ (Nat.le_refl _) h
    obtain ⟨σ2, e2, h2⟩ := for_inv Inv (items := ds) h1 fun d r σ hl h => step d r σ (Nat.le_trans hl (Nat.le_succ _)) h
    refine ⟨σ2, ?_, h2⟩
    rw [forLoop]
    rcases e with e | e <;> rw [e] <;> exact e2
/-- a comprehension of pure parts -/
theorem loop_pure {own : List Nat} {tg : Tg} {c : Sl → Out Bool} {e : Sl → Out D} {p : D → Bool} {f : D → D} {w0 : Sl} : ∀ {items : List D} {acc : List D} {σ : Sl}, wipeD σ own = w0 → acc.length + items.length ≤ sizeLine →
    (∀ d ∈ items, ∃ σ1, asgT tg d w0 = some σ1 ∧ wipeD σ1 own = w0 ∧ c σ1 = .ok (p d) σ1 ∧ (p d = true → e σ1 = .ok (f d) σ1)) → ∃ σ2, loopG (turnG own tg c (app1 e)) items acc σ = .ok (acc ++ (items.filter p).map f) σ2 ∧ wipeD σ2 own = w0
  | [], acc, σ, h, _, _ => ⟨σ, by rw [loopG]; simp, h⟩
  | d :: ds, acc, σ, h, hl, k => by
    obtain ⟨σ1, a1, a2, a3, a4⟩ := k d (List.mem_cons_self ..)
    have hk : ∀ d ∈ ds, _ := fun d m => k d (List.mem_cons_of_mem _ m)
    rw [List.length_cons] at hl
    cases hp : p d with
    | false =>
      have t : turnG own tg c (app1 e) d acc σ = .ok acc σ1 := by
        unfold turnG
        rw [h, a1]
        simp only [a3, hp, noX, Out.bind, Bool.false_eq_true, if_false]
      obtain ⟨σ2, e2, h2⟩ := loop_pure (items := ds) (acc := acc) (σ := σ1) a2 (by omega) hk
      refine ⟨σ2, ?_, h2⟩
      rw [loopG, t]
      show loopG _ ds acc σ1 = _
      rw [e2, List.filter_cons_of_neg (by rw [hp]; decide)]
    | true =>
      have t : turnG own tg c (app1 e) d acc σ = .ok (acc ++ [f d]) σ1 := by
        unfold turnG
        rw [h, a1]
        simp only [a3, hp, noX, Out.bind, if_true, app1, a4 hp]
        rw [if_pos (by omega)]
      obtain ⟨σ2, e2, h2⟩ := loop_pure (items := ds) (acc := acc ++ [f d]) (σ := σ1) a2 (by simp; omega) hk
      refine ⟨σ2, ?_, h2⟩
      rw [loopG, t]
      show loopG _ ds (acc ++ [f d]) σ1 = _
      rw [e2, List.filter_cons_of_pos hp]
      simp
theorem run_pure {own : List Nat} {tg : Tg} {c : Sl → Out Bool} {e : Sl → Out D} {items : List D} (p : D → Bool) (f : D → D) {σ : Sl} {w0 : Sl} (h : wipeD σ own = w0) (hl : items.length ≤ sizeLine)
    (k : ∀ d ∈ items, ∃ σ1, asgT tg d w0 = some σ1 ∧ wipeD σ1 own = w0 ∧ c σ1 = .ok (p d) σ1 ∧ (p d = true → e σ1 = .ok (f d) σ1)) : runG own .list (turnG own tg c (app1 e)) [] items σ = .ok (.list ((items.filter p).map f)) w0 := by
  obtain ⟨σ2, e2, h2⟩ := loop_pure (acc := []) h (by simpa using hl) k
  unfold runG
  rw [e2]
  show Out.ok _ (wipeD σ2 own) = _
  rw [h2, List.nil_append]
/-- a comprehension with an invariant -/
theorem loop_inv {α : Type} {own : List Nat} {tg : Tg} {c : Sl → Out Bool} {e : α → Sl → Out α} {w0 : Sl} (K : List D → α → Prop) : ∀ {items : List D} {acc : α} {σ : Sl}, wipeD σ own = w0 → K items acc →
    (∀ d rest acc, K (d :: rest) acc → ∃ σ1 b σ2, asgT tg d w0 = some σ1 ∧ c σ1 = .ok b σ2 ∧ (b = false → wipeD σ2 own = w0 ∧ K rest acc) ∧ (b = true → ∃ acc' σ3, e acc σ2 = .ok acc' σ3 ∧ wipeD σ3 own = w0 ∧ K rest acc')) →
    ∃ accF σ2, loopG (turnG own tg c e) items acc σ = .ok accF σ2 ∧ wipeD σ2 own = w0 ∧ K [] accF
  | [], acc, σ, h, hk, _ => ⟨acc, σ, by rw [loopG], h, hk⟩
  | d :: ds, acc, σ, h, hk, step => by
    obtain ⟨σ1, b, σ2, a1, a2, a3, a4⟩ := step d ds acc hk
    cases b with
    | false =>
      obtain ⟨h3, k3⟩ := a3 rfl
      have t : turnG own tg c e d acc σ = .ok acc σ2 := by
        unfold turnG
        rw [h, a1]
        simp only [a2, noX, Out.bind, Bool.false_eq_true, if_false]
      obtain ⟨accF, σF, e1, e2, e3⟩ := loop_inv K (items := ds) h3 k3 step
      refine ⟨accF, σF, ?_, e2, e3⟩
      rw [loopG, t]
      exact e1
    | true =>
      obtain ⟨acc', σ3, e0, h3, k3⟩ := a4 rfl
      have t : turnG own tg c e d acc σ = .ok acc' σ3 := by
        unfold turnG
        rw [h, a1]
        simp only [a2, noX, Out.bind, if_true, e0]
      obtain ⟨accF, σF, e1, e2, e3⟩ := loop_inv K (items := ds) h3 k3 step
      refine ⟨accF, σF, ?_, e2, e3⟩
      rw [loopG, t]
      exact e1
theorem run_inv {α : Type} {own : List Nat} {tg : Tg} {c : Sl → Out Bool} {e : α → Sl → Out α} {w0 : Sl} {dat : α → D} {items : List D} {acc : α} {σ : Sl} (K : List D → α → Prop) (h : wipeD σ own = w0) (hk : K items acc)
    (step : ∀ d rest acc, K (d :: rest) acc → ∃ σ1 b σ2, asgT tg d w0 = some σ1 ∧ c σ1 = .ok b σ2 ∧ (b = false → wipeD σ2 own = w0 ∧ K rest acc) ∧ (b = true → ∃ acc' σ3, e acc σ2 = .ok acc' σ3 ∧ wipeD σ3 own = w0 ∧ K rest acc')) :
    ∃ accF, runG own dat (turnG own tg c e) acc items σ = .ok (dat accF) w0 ∧ K [] accF := by
  obtain ⟨accF, σ2, e1, e2, e3⟩ := loop_inv K h hk step
  refine ⟨accF, ?_, e3⟩
  unfold runG
  rw [e1]
  show Out.ok _ (wipeD σ2 own) = _
  rw [e2]
/-- a dict by a comprehension over ints: its keys -/
def dedup : List Int → List Int → List Int
  | ks, [] => ks
  | ks, x :: r => dedup (if x ∈ ks then ks else ks ++ [x]) r
theorem dedup_mem : ∀ {r ks : List Int} {y : Int}, y ∈ dedup ks r ↔ y ∈ ks ∨ y ∈ r
  | [], ks, y => by simp [dedup]
  | x :: r, ks, y => by
    rw [dedup, dedup_mem]
    by_cases h : x ∈ ks
    · rw [if_pos h, List.mem_cons]
      constructor
      · rintro (h1 | h1)
        · exact .inl h1
        · exact .inr (.inr h1)
      · rintro (h1 | h1 | h1)
        · exact .inl h1
        · subst h1; exact .inl h
        · exact .inr h1
    · rw [if_neg h, List.mem_cons, List.mem_append, List.mem_singleton]
      constructor
      · rintro ((h1 | h1) | h1)
        · exact .inl h1
        · exact .inr (.inl h1)
        · exact .inr (.inr h1)
      · rintro (h1 | h1 | h1)
        · exact .inl (.inl h1)
        · exact .inl (.inr h1)
        · exact .inr h1
theorem dedup_nodup : ∀ {r ks : List Int}, ks.Nodup → (dedup ks r).Nodup
  | [], ks, h => h
  | x :: r, ks, h => by
    rw [dedup]
    refine dedup_nodup ?_
    by_cases m : x ∈ ks
    · rw [if_pos m]; exact h
    · rw [if_neg m]
      refine List.nodup_append.mpr ⟨h, by simp, fun a ha b hb e => ?_⟩
      cases List.mem_singleton.mp hb
      subst e
      exact m ha
theorem dedup_le : ∀ {r ks : List Int}, (dedup ks r).length ≤ ks.length + r.length
  | [], ks => by simp [dedup]
  | x :: r, ks => by
    rw [dedup]
    have := dedup_le (r := r) (ks := if x ∈ ks then ks else ks ++ [x])
    by_cases m : x ∈ ks
    · rw [if_pos m] at this ⊢; rw [List.length_cons]; omega
    · rw [if_neg m] at this ⊢; rw [List.length_append, List.length_singleton] at this; rw [List.length_cons]; omega
theorem sub_len : ∀ {l m : List Int}, l.Nodup → (∀ x ∈ l, x ∈ m) → l.length ≤ m.length
  | [], _, _, _ => Nat.zero_le _
  | x :: l, m, h, s => by
    obtain ⟨h1, h2⟩ := List.nodup_cons.mp h
    have hx := s x (List.mem_cons_self ..)
    have := sub_len (l := l) (m := m.erase x) h2 fun y hy => (List.mem_erase_of_ne (fun e => h1 (by rw [← e]; exact hy))).mpr (s y (List.mem_cons_of_mem _ hy))
    rw [List.length_erase_of_mem hx] at this
    have pos : 0 < m.length := List.length_pos_of_mem hx
    rw [List.length_cons]
    omega
theorem dict_ints {ev : Sl → Out D} {own : List Nat} {tg : Tg} {c : Sl → Out Bool} {ek : Sl → Out D} {w0 : Sl} {σ : Sl} (r : List Int) (h : wipeD σ own = w0) (hl : r.length < sizeLine)
    (step : ∀ x ∈ r, ∃ σ1 v, asgT tg (.int x) w0 = some σ1 ∧ wipeD σ1 own = w0 ∧ c σ1 = .ok true σ1 ∧ ek σ1 = .ok (.int x) σ1 ∧ ev σ1 = .ok v σ1) :
    ∃ es : List (D × D), runG own .dict (turnG own tg c (put1 ek ev)) [] (r.map PyData.int) σ = .ok (.dict es) w0 ∧ es.map (·.1) = (dedup [] r).map PyData.int := by
  obtain ⟨es, e1, rest, hr, e2, ks, q1, q2, q3⟩ := run_inv (dat := .dict) (e := put1 ek ev) (c := c) (tg := tg) (items := r.map PyData.int) (acc := []) (fun items acc => ∃ rest : List Int, items = rest.map PyData.int ∧ (∀ x ∈ rest, x ∈ r) ∧ ∃ ks : List Int, acc.map (·.1) = ks.map PyData.int ∧ dedup ks rest = dedup [] r ∧ ks.length + rest.length ≤ r.length) h
    ⟨r, rfl, fun x hx => hx, [], rfl, rfl, by simp⟩ (by
      rintro d items acc ⟨rest, er, sub, ks, k1, k2, k3⟩
      cases rest with
      | nil => cases er
      | cons x rest =>
        cases er
        obtain ⟨σ1, v, a1, a2, a3, a4, a5⟩ := step x (sub x (List.mem_cons_self ..))
        refine ⟨σ1, true, σ1, a1, a3, fun z => (nomatch z), fun _ => ?_⟩
        have lk : acc.length = ks.length := by
          have := congrArg List.length k1
          simpa using this
        have ko : kindOk acc (.k (.inl x)) = true := by
          cases acc with
          | nil => rfl
          | cons p acc =>
            obtain ⟨pk, pv⟩ := p
            cases ks with
            | nil => cases k1
            | cons k0 ks =>
              have : pk = .int k0 := (List.cons.inj k1).1
              subst this
              rfl
        have lt : acc.length < sizeLine := by
          rw [List.length_cons] at k3
          omega
        refine ⟨dPut acc (.k (.inl x)) (.int x) v, σ1, ?_, a2, rest, rfl, fun y hy => sub y (List.mem_cons_of_mem _ hy), if x ∈ ks then ks else ks ++ [x], ?_, k2, ?_⟩
        · unfold put1
          simp only [a4, a5, Out.bind]
          show (if acc.length < sizeLine ∧ kindOk acc (.k (.inl x)) = true then _ else _) = _
          rw [if_pos ⟨lt, ko⟩]
        · have anyE : acc.any (keyIsD (.k (.inl x))) = decide (x ∈ ks) := by
            have : ∀ (acc : List (D × D)) (ks : List Int), acc.map (·.1) = ks.map PyData.int → acc.any (keyIsD (.k (.inl x))) = decide (x ∈ ks) := by
              intro acc
              induction acc with
              | nil =>
                intro ks h
                cases ks with
                | nil => simp
                | cons _ _ => cases h
              | cons p acc ih =>
                intro ks h
                cases ks with
                | nil => cases h
                | cons k0 ks =>
                  obtain ⟨h1, h2⟩ := List.cons.inj h
                  obtain ⟨pk, pv⟩ := p
                  have h1 : pk = .int k0 := h1
                  subst h1
                  rw [List.any_cons, ih ks h2]
                  have e : keyIsD (.k (.inl x)) (.int k0, pv) = decide (x = k0) := by
                    unfold keyIsD
                    simp [toKK, toK, eq_comm]
                  rw [e]
                  simp [List.mem_cons]
            exact this acc ks k1
          unfold dPut
          rw [anyE]
          by_cases m : x ∈ ks
          · rw [if_pos (decide_eq_true m), if_pos m, List.map_map, ← k1]
            refine List.map_congr_left fun p _ => ?_
            show (if keyIsD (.k (.inl x)) p = true then (p.1, v) else p).1 = p.1
            split <;> rfl
          · rw [if_neg (by simpa using m), if_neg m, List.map_append, List.map_append, k1]
            rfl
        · rw [List.length_cons] at k3
          by_cases m : x ∈ ks
          · rw [if_pos m]; omega
          · rw [if_neg m, List.length_append, List.length_singleton]; omega)
  cases rest with
  | cons _ _ => cases hr
  | nil => exact ⟨es, e1, by rw [← q2]; exact q1⟩
/-! ### displays of few items -/
theorem few {α : Type} {l : List α} (h : l.length ≤ 1000) : l.length ≤ sizeLine := by
  have : sizeLine = 16777216 := sizeLine_eq
  omega
theorem evE_tup0 : evE V (.tup .nil) σ = .ok (.tuple []) σ := by
  rw [evE_tup, evL_nil, bind_ok, if_pos (few (by simp))]
theorem bind_assoc' {α β γ : Type} (x : Out α) (f : α → Sl → Out β) (g : β → Sl → Out γ) : (x.bind f).bind g = x.bind fun a σ => (f a σ).bind g := by
  cases x <;> rfl
theorem evE_tup1 {a : E} (ha : pkI a = none) : evE V (.tup (.cons a .nil)) σ = (evE V a σ).bind fun x σ => .ok (.tuple [x]) σ := by
  rw [evE_tup, evL_cons ha, bind_assoc']
  all_goals congr 1
  funext x σ
  rw [evL_nil, bind_ok, bind_ok, if_pos (few (by simp))]
theorem evE_tup2 {a b : E} (ha : pkI a = none) (hb : pkI b = none) : evE V (.tup (.cons a (.cons b .nil))) σ = (evE V a σ).bind fun x σ => (evE V b σ).bind fun y σ => .ok (.tuple [x, y]) σ := by
  rw [evE_tup, evL_cons ha, bind_assoc']
  all_goals congr 1
  funext x σ
  rw [evL_cons hb, bind_assoc', bind_assoc']
  all_goals congr 1
  funext y σ
  rw [evL_nil, bind_ok, bind_ok, bind_ok, if_pos (few (by simp))]
theorem evE_tup3 {a b c : E} (ha : pkI a = none) (hb : pkI b = none) (hc : pkI c = none) : evE V (.tup (.cons a (.cons b (.cons c .nil)))) σ = (evE V a σ).bind fun x σ => (evE V b σ).bind fun y σ => (evE V c σ).bind fun z σ => .ok (.tuple [x, y, z]) σ := by
  rw [evE_tup, evL_cons ha, bind_assoc']
  all_goals congr 1
  funext x σ
  rw [evL_cons hb, bind_assoc', bind_assoc']
  all_goals congr 1
  funext y σ
  rw [evL_cons hc, bind_assoc', bind_assoc']
  all_goals congr 1
  funext z σ
  rw [evL_nil, bind_ok, bind_ok, bind_ok, bind_ok, if_pos (few (by simp))]
theorem evE_lst0 {m} : evE V (.lst m .nil) σ = .ok (.list []) σ := by
  rw [evE_lst, evL_nil, bind_ok, if_pos (few (by simp))]
theorem evE_lst1 {m} {a : E} (ha : pkI a = none) : evE V (.lst m (.cons a .nil)) σ = (evE V a σ).bind fun x σ => .ok (.list [x]) σ := by
  rw [evE_lst, evL_cons ha, bind_assoc']
  all_goals congr 1
  funext x σ
  rw [evL_nil, bind_ok, bind_ok, if_pos (few (by simp))]
theorem evE_lst2 {m} {a b : E} (ha : pkI a = none) (hb : pkI b = none) : evE V (.lst m (.cons a (.cons b .nil))) σ = (evE V a σ).bind fun x σ => (evE V b σ).bind fun y σ => .ok (.list [x, y]) σ := by
  rw [evE_lst, evL_cons ha, bind_assoc']
  all_goals congr 1
  funext x σ
  rw [evL_cons hb, bind_assoc', bind_assoc']
  all_goals congr 1
  funext y σ
  rw [evL_nil, bind_ok, bind_ok, bind_ok, if_pos (few (by simp))]
theorem evE_lst3 {m} {a b c : E} (ha : pkI a = none) (hb : pkI b = none) (hc : pkI c = none) : evE V (.lst m (.cons a (.cons b (.cons c .nil)))) σ = (evE V a σ).bind fun x σ => (evE V b σ).bind fun y σ => (evE V c σ).bind fun z σ => .ok (.list [x, y, z]) σ := by
  rw [evE_lst, evL_cons ha, bind_assoc']
  all_goals congr 1
  funext x σ
  rw [evL_cons hb, bind_assoc', bind_assoc']
  all_goals congr 1
  funext y σ
  rw [evL_cons hc, bind_assoc', bind_assoc']
  all_goals congr 1
  funext z σ
  rw [evL_nil, bind_ok, bind_ok, bind_ok, bind_ok, if_pos (few (by simp))]
theorem pk_var {i} : pkI (.var i) = none := rfl
theorem pk_int {i} : pkI (.int i) = none := rfl
theorem pk_str {i} : pkI (.str i) = none := rfl
theorem pk_bl {i} : pkI (.bl i) = none := rfl
theorem pk_non : pkI .non = none := rfl
theorem pk_op {o fr as} : pkI (.op o fr as) = none := rfl
theorem pk_call {f as} : pkI (.call f as) = none := rfl
theorem pk_tup {as} : pkI (.tup as) = none := rfl
theorem pk_lst {m as} : pkI (.lst m as) = none := rfl
theorem pk_ite {a b c} : pkI (.ite a b c) = none := rfl
theorem pk_and {a b} : pkI (.and a b) = none := rfl
theorem pk_or {a b} : pkI (.or a b) = none := rfl
theorem pk_not {a} : pkI (.not a) = none := rfl
theorem pk_lc {own tg ik it c m e} : pkI (.lc own tg ik it c m e) = none := rfl
theorem fin0 {α : Type} {a b : α} : (if ([] : List D).length ≤ sizeLine then a else b) = a := if_pos (few (by simp))
theorem fin1 {α : Type} {a b : α} {x : D} : (if [x].length ≤ sizeLine then a else b) = a := if_pos (few (by simp))
theorem fin2 {α : Type} {a b : α} {x y : D} : (if [x, y].length ≤ sizeLine then a else b) = a := if_pos (few (by simp))
theorem fin3 {α : Type} {a b : α} {x y z : D} : (if [x, y, z].length ≤ sizeLine then a else b) = a := if_pos (few (by simp))
end
end Dt
end
section
set_option Elab.async false
set_option linter.all false
set_option maxRecDepth 100000
set_option maxHeartbeats 0
namespace K36
open PySem PySem.Spec PyProof.Rows L2 Dt
def top (i : Nat) : Stmt := PySem.Challenge.pw_turnabouts_k36_whole_least_rounds.main.body.getD i (.Pass ⟨0, 0, 0, 0⟩)
/-- is_whole: 0 value -/
def b_is_whole : S := (.seq (.ret (.and (.op .isInt false (.cons (.pk 0) .nil)) (.not (.op .isBool false (.cons (.pk 0) .nil)))))
  .skip)
def d_is_whole : DefC := ⟨"is_whole", defArgs (top 5), defBody (top 5), defScope (top 5), ["value"], ["value"], [.F], ⟨1, [], 1, .F, b_is_whole⟩, [none]⟩
/-- is_count: 0 value -/
def b_is_count : S := (.seq (.ret (.and (.call 0 (.cons (.var 0) .nil)) (.op .ge false (.cons (.pk 0) (.cons (.int 0) .nil)))))
  .skip)
def d_is_count : DefC := ⟨"is_count", defArgs (top 6), defBody (top 6), defScope (top 6), ["value"], ["value"], [.F], ⟨1, [], 1, .F, b_is_count⟩, [none]⟩
/-- need_count: 0 what, 1 value -/
def b_need_count : S := (.seq (.ite (.not (.call 1 (.cons (.var 1) .nil)))
  (.seq (.raise 0 .nil)
  .skip)
  .skip)
  .skip)
def d_need_count : DefC := ⟨"need_count", defArgs (top 7), defBody (top 7), defScope (top 7), ["what", "value"], ["what", "value"], [.F, .F], ⟨2, [], 2, .F, b_need_count⟩, [none, none]⟩
/-- is_place: 0 n, 1 value -/
def b_is_place : S := (.seq (.ret (.and (.call 1 (.cons (.var 1) .nil)) (.op .lt false (.cons (.pk 1) (.cons (.pk 0) .nil)))))
  .skip)
def d_is_place : DefC := ⟨"is_place", defArgs (top 9), defBody (top 9), defScope (top 9), ["n", "value"], ["n", "value"], [.F, .F], ⟨2, [], 2, .F, b_is_place⟩, [none, none]⟩
/-- is_word_in: 0 n, 1 value, 2 place -/
def b_is_word_in : S := (.seq (.ite (.or (.not (.op .isTuple false (.cons (.pk 1) .nil))) (.not (.op .all false (.cons (.lc [2] (.v 2) .seq (.cons (.var 1) .nil) (.bl true) .F (.call 3 (.cons (.var 0) (.cons (.var 2) .nil)))) .nil))))
  (.seq (.ret (.bl false))
  .skip)
  .skip)
  (.seq (.ret (.op .eq false (.cons (.op .len false (.cons (.dc [2] (.v 2) .seq (.cons (.var 1) .nil) (.bl true) (.var 2) (.bl true)) .nil)) (.cons (.pk 0) .nil))))
  .skip))
def d_is_word_in : DefC := ⟨"is_word_in", defArgs (top 11), defBody (top 11), defScope (top 11), ["n", "value"], ["n", "value", "place"], [.F, .F, .F], ⟨2, [], 3, .F, b_is_word_in⟩, [none, none]⟩
/-- need_word: 0 n, 1 value -/
def b_need_word : S := (.seq (.exp (.call 2 (.cons (.str "places") (.cons (.var 0) .nil))))
  (.seq (.ite (.not (.call 4 (.cons (.var 0) (.cons (.var 1) .nil))))
  (.seq (.raise 0 .nil)
  .skip)
  .skip)
  .skip))
def d_need_word : DefC := ⟨"need_word", defArgs (top 12), defBody (top 12), defScope (top 12), ["n", "value"], ["n", "value"], [.F, .F], ⟨2, [], 2, .F, b_need_word⟩, [none, none]⟩
/-- struck: 0 word, 1 places, 2 place -/
def b_struck : S := (.seq (.ret (.lc [2] (.v 2) .seq (.cons (.var 0) .nil) (.op .isIn false (.cons (.pk 2) (.cons (.pk 1) .nil))) .F (.var 2)))
  .skip)
def d_struck : DefC := ⟨"struck", defArgs (top 13), defBody (top 13), defScope (top 13), ["word", "places"], ["word", "places", "place"], [.F, .F, .F], ⟨2, [], 3, .F, b_struck⟩, [none, none]⟩
/-- by_turns: 0 word, 1 one, 2 two, 3 rest, 4 a, 5 b -/
def b_by_turns : S := (.seq (.set 3 (.call 6 (.cons (.var 0) (.cons (.tup (.cons (.var 1) (.cons (.var 2) .nil))) .nil))))
  (.seq (.ret (.op .all false (.cons (.lc [4, 5] (.cons (.v 4) (.cons (.v 5) .nil)) .zip (.cons (.var 3) (.cons (.op .sliceL false (.cons (.pk 3) (.cons (.int 1) .nil))) .nil)) (.bl true) .F (.op .ne false (.cons (.pk 4) (.cons (.pk 5) .nil)))) .nil)))
  .skip))
def d_by_turns : DefC := ⟨"by_turns", defArgs (top 14), defBody (top 14), defScope (top 14), ["word", "one", "two"], ["word", "one", "two", "rest", "a", "b"], [.F, .F, .F, .F, .F, .F], ⟨3, [], 6, .F, b_by_turns⟩, [none, none, none]⟩
/-- told_in: 0 n, 1 word, 2 a, 3 b -/
def b_told_in : S := (.seq (.ret (.tup (.cons (.var 0) (.cons (.op .tuple false (.cons (.lc2 [2, 3] (.v 2) .range1 (.cons (.var 0) .nil) (.bl true) [3] (.v 3) .range2 (.cons (.op .add false (.cons (.pk 2) (.cons (.int 1) .nil))) (.cons (.var 0) .nil)) (.call 7 (.cons (.var 1) (.cons (.var 2) (.cons (.var 3) .nil)))) .F (.tup (.cons (.var 2) (.cons (.var 3) .nil)))) .nil)) .nil))))
  .skip)
def d_told_in : DefC := ⟨"told_in", defArgs (top 15), defBody (top 15), defScope (top 15), ["n", "word"], ["n", "word", "a", "b"], [.F, .F, .F, .F], ⟨2, [], 4, .F, b_told_in⟩, [none, none]⟩
/-- web_told: 0 n, 1 word -/
def b_web_told : S := (.seq (.exp (.call 5 (.cons (.var 0) (.cons (.var 1) .nil))))
  (.seq (.ret (.call 8 (.cons (.var 0) (.cons (.var 1) .nil))))
  .skip))
def d_web_told : DefC := ⟨"web_told", defArgs (top 16), defBody (top 16), defScope (top 16), ["n", "word"], ["n", "word"], [.F, .F], ⟨2, [], 2, .F, b_web_told⟩, [none, none]⟩
/-- counts_in: 0 n, 1 word, 2 found, 3 place -/
def b_counts_in : S := (.seq (.set 2 (.op .mul true (.cons (.lst .F (.cons (.int 0) .nil)) (.cons (.pk 0) .nil))))
  (.seq (.for (.v 3) .seq (.cons (.var 1) .nil)
  (.seq (.put .augAdd 2 (.var 3) (.int 1))
  .skip))
  (.seq (.frz 2)
  (.seq (.ret (.var 2))
  .skip))))
def d_counts_in : DefC := ⟨"counts_in", defArgs (top 17), defBody (top 17), defScope (top 17), ["n", "word"], ["n", "word", "found", "place"], [.F, .F, (.O .F), .F], ⟨2, [], 4, .F, b_counts_in⟩, [none, none]⟩
/-- is_even_in: 0 n, 1 word, 2 many -/
def b_is_even_in : S := (.seq (.ret (.op .lt false (.cons (.op .len false (.cons (.dc [2] (.v 2) .seq (.cons (.call 10 (.cons (.var 0) (.cons (.var 1) .nil))) .nil) (.bl true) (.var 2) (.bl true)) .nil)) (.cons (.int 2) .nil))))
  .skip)
def d_is_even_in : DefC := ⟨"is_even_in", defArgs (top 18), defBody (top 18), defScope (top 18), ["n", "word"], ["n", "word", "many"], [.F, .F, .F], ⟨2, [], 3, .F, b_is_even_in⟩, [none, none]⟩
/-- turned_word: 0 n, 1 word -/
def b_turned_word : S := (.seq (.exp (.call 5 (.cons (.var 0) (.cons (.var 1) .nil))))
  (.seq (.ret (.op .rev false (.cons (.pk 1) .nil)))
  .skip))
def d_turned_word : DefC := ⟨"turned_word", defArgs (top 19), defBody (top 19), defScope (top 19), ["n", "word"], ["n", "word"], [.F, .F], ⟨2, [], 2, .F, b_turned_word⟩, [none, none]⟩
/-- gone_round: 0 n, 1 word, 2 by, 3 at -/
def b_gone_round : S := (.seq (.exp (.call 5 (.cons (.var 0) (.cons (.var 1) .nil))))
  (.seq (.exp (.call 2 (.cons (.str "by") (.cons (.var 2) .nil))))
  (.seq (.ite (.not (.call 11 (.cons (.var 0) (.cons (.var 1) .nil))))
  (.seq (.raise 0 .nil)
  .skip)
  .skip)
  (.seq (.ite (.op .eq false (.cons (.pk 1) (.cons (.tup .nil) .nil)))
  (.seq (.ret (.tup .nil))
  .skip)
  .skip)
  (.seq (.set 3 (.op .mod false (.cons (.pk 2) (.cons (.op .len false (.cons (.pk 1) .nil)) .nil))))
  (.seq (.ret (.op .add false (.cons (.op .sliceL false (.cons (.pk 1) (.cons (.pk 3) .nil))) (.cons (.op .sliceH false (.cons (.pk 1) (.cons (.pk 3) .nil))) .nil))))
  .skip))))))
def d_gone_round : DefC := ⟨"gone_round", defArgs (top 20), defBody (top 20), defScope (top 20), ["n", "word", "by"], ["n", "word", "by", "at"], [.F, .F, .F, .F], ⟨3, [], 4, .F, b_gone_round⟩, [none, none, none]⟩
/-- is_chord_in: 0 n, 1 value, 2 many -/
def b_is_chord_in : S := (.seq (.ret (.and (.call 4 (.cons (.var 0) (.cons (.var 1) .nil))) (.op .all false (.cons (.lc [2] (.v 2) .seq (.cons (.call 10 (.cons (.var 0) (.cons (.var 1) .nil))) .nil) (.bl true) .F (.op .eq false (.cons (.pk 2) (.cons (.int 2) .nil)))) .nil))))
  .skip)
def d_is_chord_in : DefC := ⟨"is_chord_in", defArgs (top 22), defBody (top 22), defScope (top 22), ["n", "value"], ["n", "value", "many"], [.F, .F, .F], ⟨2, [], 3, .F, b_is_chord_in⟩, [none, none]⟩
/-- need_chords: 0 n, 1 value -/
def b_need_chords : S := (.seq (.exp (.call 2 (.cons (.str "places") (.cons (.var 0) .nil))))
  (.seq (.ite (.not (.call 14 (.cons (.var 0) (.cons (.var 1) .nil))))
  (.seq (.raise 0 .nil)
  .skip)
  .skip)
  .skip))
def d_need_chords : DefC := ⟨"need_chords", defArgs (top 23), defBody (top 23), defScope (top 23), ["n", "value"], ["n", "value"], [.F, .F], ⟨2, [], 2, .F, b_need_chords⟩, [none, none]⟩
/-- round_in: 0 word, 1 found, 2 way, 3 k -/
def b_round_in : S := (.seq (.set 1 (.lst .F (.cons (.var 0) .nil)))
  (.seq (.for (.v 2) .seq (.cons (.tup (.cons (.var 0) (.cons (.op .rev false (.cons (.pk 0) .nil)) .nil))) .nil)
  (.seq (.exp (.mut .extend 1 (.cons (.lc [3] (.v 3) .range1 (.cons (.op .len false (.cons (.pk 2) .nil)) .nil) (.bl true) .F (.op .add false (.cons (.op .sliceL false (.cons (.pk 2) (.cons (.pk 3) .nil))) (.cons (.op .sliceH false (.cons (.pk 2) (.cons (.pk 3) .nil))) .nil)))) .nil)))
  .skip))
  (.seq (.ret (.op .min1 false (.cons (.pk 1) .nil)))
  .skip)))
def d_round_in : DefC := ⟨"round_in", defArgs (top 24), defBody (top 24), defScope (top 24), ["word"], ["word", "found", "way", "k"], [.F, (.O .F), .F, .F], ⟨1, [], 4, .F, b_round_in⟩, [none]⟩
/-- least_round: 0 n, 1 word -/
def b_least_round : S := (.seq (.exp (.call 15 (.cons (.var 0) (.cons (.var 1) .nil))))
  (.seq (.ret (.call 16 (.cons (.var 1) .nil)))
  .skip))
def d_least_round : DefC := ⟨"least_round", defArgs (top 25), defBody (top 25), defScope (top 25), ["n", "word"], ["n", "word"], [.F, .F], ⟨2, [], 2, .F, b_least_round⟩, [none, none]⟩
/-- _law_pen: 0 script, 1 fold, 2 cell -/
def b__law_pen : S := (.seq (.set 1 (.int 0))
  (.seq (.for (.v 2) .seq (.cons (.var 0) .nil)
  (.seq (.set 1 (.op .mod false (.cons (.op .int false (.cons (.op .add false (.cons (.op .mul false (.cons (.pk 1) (.cons (.int 89) .nil))) (.cons (.pk 2) .nil))) .nil)) (.cons (.int 1000000271) .nil))))
  .skip))
  (.seq (.ret (.dsp ["cells", "at", "digits", "count", "fold"] (.cons (.op .list false (.cons (.pk 0) .nil)) (.cons (.int 0) (.cons (.int 0) (.cons (.int 0) (.cons (.var 1) .nil)))))))
  .skip)))
def d__law_pen : DefC := ⟨"_law_pen", defArgs (top 27), defBody (top 27), defScope (top 27), ["script"], ["script", "fold", "cell"], [.F, .F, .F], ⟨1, [], 3, .O .F, b__law_pen⟩, [none]⟩
/-- _law_draw: 0 pen, 1 many, 2 cell, 3 digit, 4 blend -/
def b__law_draw : S := (.seq (.put .set 0 (.str "count") (.op .add false (.cons (.op .idx false (.cons (.pk 0) (.cons (.str "count") .nil))) (.cons (.int 1) .nil))))
  (.seq (.ite (.and (.op .eq false (.cons (.op .idx false (.cons (.pk 0) (.cons (.str "digits") .nil))) (.cons (.int 0) .nil))) (.op .lt false (.cons (.op .idx false (.cons (.pk 0) (.cons (.str "at") .nil))) (.cons (.op .len false (.cons (.op .idx false (.cons (.pk 0) (.cons (.str "cells") .nil))) .nil)) .nil))))
  (.seq (.set 2 (.op .idx false (.cons (.op .idx false (.cons (.pk 0) (.cons (.str "cells") .nil))) (.cons (.op .idx false (.cons (.pk 0) (.cons (.str "at") .nil))) .nil))))
  (.seq (.put .set 0 (.str "at") (.op .add false (.cons (.op .idx false (.cons (.pk 0) (.cons (.str "at") .nil))) (.cons (.int 1) .nil))))
  (.seq (.ite (.op .ge false (.cons (.pk 2) (.cons (.op .pow false (.cons (.int 10) (.cons (.int 18) .nil))) .nil)))
  (.seq (.put .set 0 (.str "digits") (.op .sub false (.cons (.pk 2) (.cons (.op .pow false (.cons (.int 10) (.cons (.int 18) .nil))) .nil))))
  .skip)
  (.seq (.put .set 0 (.str "fold") (.op .mod false (.cons (.op .int false (.cons (.op .add false (.cons (.op .mul false (.cons (.op .idx false (.cons (.pk 0) (.cons (.str "fold") .nil))) (.cons (.int 50021) .nil))) (.cons (.pk 2) .nil))) .nil)) (.cons (.int 2147483549) .nil))))
  .skip))
  .skip)))
  .skip)
  (.seq (.ite (.op .gt false (.cons (.op .idx false (.cons (.pk 0) (.cons (.str "digits") .nil))) (.cons (.int 0) .nil)))
  (.seq (.set 3 (.op .mod false (.cons (.op .int false (.cons (.op .idx false (.cons (.pk 0) (.cons (.str "digits") .nil))) .nil)) (.cons (.pk 1) .nil))))
  (.seq (.put .set 0 (.str "digits") (.op .fdiv false (.cons (.op .idx false (.cons (.pk 0) (.cons (.str "digits") .nil))) (.cons (.pk 1) .nil))))
  (.seq (.ret (.var 3))
  .skip)))
  .skip)
  (.seq (.set 4 (.op .add false (.cons (.op .add false (.cons (.op .idx false (.cons (.pk 0) (.cons (.str "fold") .nil))) (.cons (.op .mul false (.cons (.op .idx false (.cons (.pk 0) (.cons (.str "count") .nil))) (.cons (.int 9001) .nil))) .nil))) (.cons (.int 67) .nil))))
  (.seq (.ret (.op .mod false (.cons (.op .fdiv false (.cons (.op .int false (.cons (.op .mod false (.cons (.op .pow false (.cons (.pk 4) (.cons (.int 17) .nil))) (.cons (.int 2305843009213693951) .nil))) .nil)) (.cons (.int 512) .nil))) (.cons (.pk 1) .nil))))
  .skip)))))
def d__law_draw : DefC := ⟨"_law_draw", defArgs (top 28), defBody (top 28), defScope (top 28), ["pen", "many"], ["pen", "many", "cell", "digit", "blend"], [(.O .F), .F, .F, .F, .F], ⟨2, [0], 5, .F, b__law_draw⟩, [some (.O .F), none]⟩
/-- _law_shuffled: 0 pen, 1 some, 2 rest, 3 found, 4 lap, 5 k -/
def b__law_shuffled : S := (.seq (.par (.cons (.v 2) (.cons (.v 3) .nil)) (.cons (.op .list false (.cons (.pk 1) .nil)) (.cons (.lst .F .nil) .nil)))
  (.seq (.for (.v 4) .range1 (.cons (.op .len false (.cons (.pk 1) .nil)) .nil)
  (.seq (.set 5 (.call 19 (.cons (.lnt 0) (.cons (.op .len false (.cons (.pk 2) .nil)) .nil))))
  (.seq (.exp (.mut .append 3 (.cons (.op .idx false (.cons (.pk 2) (.cons (.pk 5) .nil))) .nil)))
  (.seq (.set 2 (.op .add false (.cons (.op .sliceH false (.cons (.pk 2) (.cons (.pk 5) .nil))) (.cons (.op .sliceL false (.cons (.pk 2) (.cons (.op .add false (.cons (.pk 5) (.cons (.int 1) .nil))) .nil))) .nil))))
  .skip))))
  (.seq (.frz 3)
  (.seq (.ret (.var 3))
  .skip))))
def d__law_shuffled : DefC := ⟨"_law_shuffled", defArgs (top 29), defBody (top 29), defScope (top 29), ["pen", "some"], ["pen", "some", "rest", "found", "lap", "k"], [(.O .F), .F, .F, (.O .F), .F, .F], ⟨2, [0], 6, .F, b__law_shuffled⟩, [some (.O .F), none]⟩
/-- _law_by_turns: 0 word, 1 a, 2 b, 3 rest, 4 k -/
def b__law_by_turns : S := (.seq (.set 3 (.lc [4] (.v 4) .seq (.cons (.var 0) .nil) (.op .isIn false (.cons (.pk 4) (.cons (.tup (.cons (.var 1) (.cons (.var 2) .nil))) .nil))) .F (.var 4)))
  (.seq (.ret (.op .eq false (.cons (.lc [4] (.v 4) .range2 (.cons (.int 1) (.cons (.op .len false (.cons (.pk 3) .nil)) .nil)) (.op .eq false (.cons (.op .idx false (.cons (.pk 3) (.cons (.op .sub false (.cons (.pk 4) (.cons (.int 1) .nil))) .nil))) (.cons (.op .idx false (.cons (.pk 3) (.cons (.pk 4) .nil))) .nil))) .F (.var 4)) (.cons (.lst .F .nil) .nil))))
  .skip))
def d__law_by_turns : DefC := ⟨"_law_by_turns", defArgs (top 30), defBody (top 30), defScope (top 30), ["word", "a", "b"], ["word", "a", "b", "rest", "k"], [.F, .F, .F, .F, .F], ⟨3, [], 5, .F, b__law_by_turns⟩, [none, none, none]⟩
/-- _law_told_web: 0 n, 1 word, 2 ties, 3 a, 4 b -/
def b__law_told_web : S := (.seq (.set 2 (.lst .F .nil))
  (.seq (.for (.v 3) .range1 (.cons (.var 0) .nil)
  (.seq (.set 2 (.op .add false (.cons (.pk 2) (.cons (.lc [4] (.v 4) .range2 (.cons (.op .add false (.cons (.pk 3) (.cons (.int 1) .nil))) (.cons (.var 0) .nil)) (.call 21 (.cons (.var 1) (.cons (.var 3) (.cons (.var 4) .nil)))) .F (.tup (.cons (.var 3) (.cons (.var 4) .nil)))) .nil))))
  .skip))
  (.seq (.ret (.tup (.cons (.var 0) (.cons (.op .tuple false (.cons (.pk 2) .nil)) .nil))))
  .skip)))
def d__law_told_web : DefC := ⟨"_law_told_web", defArgs (top 31), defBody (top 31), defScope (top 31), ["n", "word"], ["n", "word", "ties", "a", "b"], [.F, .F, .F, .F, .F], ⟨2, [], 5, .F, b__law_told_web⟩, [none, none]⟩
/-- _law_chord: 0 pen, 1 n, 2 word, 3 place, 4 lap, 5 at -/
def b__law_chord : S := (.seq (.ite (.op .eq false (.cons (.call 19 (.cons (.lnt 0) (.cons (.int 2) .nil))) (.cons (.int 0) .nil)))
  (.seq (.ret (.op .tuple false (.cons (.call 20 (.cons (.lnt 0) (.cons (.op .add false (.cons (.op .range1 false (.cons (.pk 1) .nil)) (.cons (.op .range1 false (.cons (.pk 1) .nil)) .nil))) .nil))) .nil)))
  .skip)
  .skip)
  (.seq (.set 2 (.lst .F .nil))
  (.seq (.for (.v 3) .seq (.cons (.call 20 (.cons (.lnt 0) (.cons (.op .range1 false (.cons (.pk 1) .nil)) .nil))) .nil)
  (.seq (.for (.v 4) .range1 (.cons (.int 2) .nil)
  (.seq (.set 5 (.op .max2 false (.cons (.int 0) (.cons (.op .sub false (.cons (.op .len false (.cons (.pk 2) .nil)) (.cons (.call 19 (.cons (.lnt 0) (.cons (.int 5) .nil))) .nil))) .nil))))
  (.seq (.set 2 (.op .add false (.cons (.op .add false (.cons (.op .sliceH false (.cons (.pk 2) (.cons (.pk 5) .nil))) (.cons (.lst .F (.cons (.var 3) .nil)) .nil))) (.cons (.op .sliceL false (.cons (.pk 2) (.cons (.pk 5) .nil))) .nil))))
  .skip)))
  .skip))
  (.seq (.ret (.op .tuple false (.cons (.pk 2) .nil)))
  .skip))))
def d__law_chord : DefC := ⟨"_law_chord", defArgs (top 32), defBody (top 32), defScope (top 32), ["pen", "n"], ["pen", "n", "word", "place", "lap", "at"], [(.O .F), .F, .F, .F, .F, .F], ⟨2, [0], 6, .F, b__law_chord⟩, [some (.O .F), none]⟩
/-- _law_least: 0 word, 1 found, 2 way, 3 k -/
def b__law_least : S := (.seq (.set 1 (.lst .F (.cons (.var 0) .nil)))
  (.seq (.for (.v 2) .seq (.cons (.lst .F (.cons (.var 0) (.cons (.op .rev false (.cons (.pk 0) .nil)) .nil))) .nil)
  (.seq (.set 1 (.op .add false (.cons (.pk 1) (.cons (.lc [3] (.v 3) .range1 (.cons (.op .len false (.cons (.pk 2) .nil)) .nil) (.bl true) .F (.op .add false (.cons (.op .sliceL false (.cons (.pk 2) (.cons (.pk 3) .nil))) (.cons (.op .sliceH false (.cons (.pk 2) (.cons (.pk 3) .nil))) .nil)))) .nil))))
  .skip))
  (.seq (.ret (.op .min1 false (.cons (.pk 1) .nil)))
  .skip)))
def d__law_least : DefC := ⟨"_law_least", defArgs (top 33), defBody (top 33), defScope (top 33), ["word"], ["word", "found", "way", "k"], [.F, .F, .F, .F], ⟨1, [], 4, .F, b__law_least⟩, [none]⟩
/-- law: 0 script, 1 pen, 2 lap, 3 n, 4 word, 5 due, 6 web, 7 by, 8 some, 9 other -/
def b_law : S := (.seq (.set 1 (.call 18 (.cons (.var 0) .nil)))
  (.seq (.for (.v 2) .range1 (.cons (.int 4) .nil)
  (.seq (.set 3 (.call 19 (.cons (.lnt 1) (.cons (.int 13) .nil))))
  (.seq (.set 4 (.call 23 (.cons (.lnt 1) (.cons (.var 3) .nil))))
  (.seq (.par (.cons (.v 5) (.cons (.v 6) .nil)) (.cons (.call 24 (.cons (.var 4) .nil)) (.cons (.call 22 (.cons (.var 3) (.cons (.var 4) .nil))) .nil)))
  (.seq (.for (.v 7) .seq (.cons (.lst .F (.cons (.int 0) (.cons (.int 1) (.cons (.call 19 (.cons (.lnt 1) (.cons (.int 40) .nil))) .nil)))) .nil)
  (.seq (.set 8 (.call 13 (.cons (.var 3) (.cons (.var 4) (.cons (.var 7) .nil)))))
  (.seq (.for (.v 9) .seq (.cons (.lst .F (.cons (.var 8) (.cons (.call 12 (.cons (.var 3) (.cons (.var 8) .nil))) .nil))) .nil)
  (.seq (.ite (.or (.op .ne false (.cons (.op .repr false (.cons (.call 17 (.cons (.var 3) (.cons (.var 9) .nil))) .nil)) (.cons (.op .repr false (.cons (.pk 5) .nil)) .nil))) (.op .ne false (.cons (.op .repr false (.cons (.call 9 (.cons (.var 3) (.cons (.var 9) .nil))) .nil)) (.cons (.op .repr false (.cons (.pk 6) .nil)) .nil))))
  (.seq (.ret (.bl false))
  .skip)
  .skip)
  .skip))
  .skip)))
  (.seq (.ite (.op .ne false (.cons (.op .repr false (.cons (.call 17 (.cons (.var 3) (.cons (.var 5) .nil))) .nil)) (.cons (.op .repr false (.cons (.pk 5) .nil)) .nil)))
  (.seq (.ret (.bl false))
  .skip)
  .skip)
  .skip))))))
  (.seq (.ret (.bl true))
  .skip)))
def d_law : DefC := ⟨"law", defArgs (top 34), defBody (top 34), defScope (top 34), ["script"], ["script", "pen", "lap", "n", "word", "due", "web", "by", "some", "other"], [.F, (.O .F), .F, .F, .F, .F, .F, .F, .F, .F], ⟨1, [], 10, .F, b_law⟩, [none]⟩
def ds : List DefC := [d_is_whole, d_is_count, d_need_count, d_is_place, d_is_word_in, d_need_word, d_struck, d_by_turns, d_told_in, d_web_told, d_counts_in, d_is_even_in, d_turned_word, d_gone_round, d_is_chord_in, d_need_chords, d_round_in, d_least_round, d__law_pen, d__law_draw, d__law_shuffled, d__law_by_turns, d__law_told_web, d__law_chord, d__law_least, d_law]
def bn : List Str := ["len", "int", "min", "max", "list", "tuple", "repr", "all", "isinstance", "bool", "range", "zip"]
def P0 : Prg := ⟨ds.map DefC.fn, fun _ _ => false⟩
theorem run_is_whole (wf k : Nat) (x0 : D) : Dt.run P0 wf (k + 1) 0 [x0] = endF [] (evS ⟨Dt.run P0 wf k, wf, P0.sub⟩ b_is_whole [some x0]) := rfl
theorem run_is_count (wf k : Nat) (x0 : D) : Dt.run P0 wf (k + 1) 1 [x0] = endF [] (evS ⟨Dt.run P0 wf k, wf, P0.sub⟩ b_is_count [some x0]) := rfl
theorem run_need_count (wf k : Nat) (x0 x1 : D) : Dt.run P0 wf (k + 1) 2 [x0, x1] = endF [] (evS ⟨Dt.run P0 wf k, wf, P0.sub⟩ b_need_count [some x0, some x1]) := rfl
theorem run_is_place (wf k : Nat) (x0 x1 : D) : Dt.run P0 wf (k + 1) 3 [x0, x1] = endF [] (evS ⟨Dt.run P0 wf k, wf, P0.sub⟩ b_is_place [some x0, some x1]) := rfl
theorem run_is_word_in (wf k : Nat) (x0 x1 : D) : Dt.run P0 wf (k + 1) 4 [x0, x1] = endF [] (evS ⟨Dt.run P0 wf k, wf, P0.sub⟩ b_is_word_in [some x0, some x1, none]) := rfl
theorem run_need_word (wf k : Nat) (x0 x1 : D) : Dt.run P0 wf (k + 1) 5 [x0, x1] = endF [] (evS ⟨Dt.run P0 wf k, wf, P0.sub⟩ b_need_word [some x0, some x1]) := rfl
theorem run_struck (wf k : Nat) (x0 x1 : D) : Dt.run P0 wf (k + 1) 6 [x0, x1] = endF [] (evS ⟨Dt.run P0 wf k, wf, P0.sub⟩ b_struck [some x0, some x1, none]) := rfl
theorem run_by_turns (wf k : Nat) (x0 x1 x2 : D) : Dt.run P0 wf (k + 1) 7 [x0, x1, x2] = endF [] (evS ⟨Dt.run P0 wf k, wf, P0.sub⟩ b_by_turns [some x0, some x1, some x2, none, none, none]) := rfl
theorem run_told_in (wf k : Nat) (x0 x1 : D) : Dt.run P0 wf (k + 1) 8 [x0, x1] = endF [] (evS ⟨Dt.run P0 wf k, wf, P0.sub⟩ b_told_in [some x0, some x1, none, none]) := rfl
theorem run_web_told (wf k : Nat) (x0 x1 : D) : Dt.run P0 wf (k + 1) 9 [x0, x1] = endF [] (evS ⟨Dt.run P0 wf k, wf, P0.sub⟩ b_web_told [some x0, some x1]) := rfl
theorem run_counts_in (wf k : Nat) (x0 x1 : D) : Dt.run P0 wf (k + 1) 10 [x0, x1] = endF [] (evS ⟨Dt.run P0 wf k, wf, P0.sub⟩ b_counts_in [some x0, some x1, none, none]) := rfl
theorem run_is_even_in (wf k : Nat) (x0 x1 : D) : Dt.run P0 wf (k + 1) 11 [x0, x1] = endF [] (evS ⟨Dt.run P0 wf k, wf, P0.sub⟩ b_is_even_in [some x0, some x1, none]) := rfl
theorem run_turned_word (wf k : Nat) (x0 x1 : D) : Dt.run P0 wf (k + 1) 12 [x0, x1] = endF [] (evS ⟨Dt.run P0 wf k, wf, P0.sub⟩ b_turned_word [some x0, some x1]) := rfl
theorem run_gone_round (wf k : Nat) (x0 x1 x2 : D) : Dt.run P0 wf (k + 1) 13 [x0, x1, x2] = endF [] (evS ⟨Dt.run P0 wf k, wf, P0.sub⟩ b_gone_round [some x0, some x1, some x2, none]) := rfl
theorem run_is_chord_in (wf k : Nat) (x0 x1 : D) : Dt.run P0 wf (k + 1) 14 [x0, x1] = endF [] (evS ⟨Dt.run P0 wf k, wf, P0.sub⟩ b_is_chord_in [some x0, some x1, none]) := rfl
theorem run_need_chords (wf k : Nat) (x0 x1 : D) : Dt.run P0 wf (k + 1) 15 [x0, x1] = endF [] (evS ⟨Dt.run P0 wf k, wf, P0.sub⟩ b_need_chords [some x0, some x1]) := rfl
theorem run_round_in (wf k : Nat) (x0 : D) : Dt.run P0 wf (k + 1) 16 [x0] = endF [] (evS ⟨Dt.run P0 wf k, wf, P0.sub⟩ b_round_in [some x0, none, none, none]) := rfl
theorem run_least_round (wf k : Nat) (x0 x1 : D) : Dt.run P0 wf (k + 1) 17 [x0, x1] = endF [] (evS ⟨Dt.run P0 wf k, wf, P0.sub⟩ b_least_round [some x0, some x1]) := rfl
theorem run__law_pen (wf k : Nat) (x0 : D) : Dt.run P0 wf (k + 1) 18 [x0] = endF [] (evS ⟨Dt.run P0 wf k, wf, P0.sub⟩ b__law_pen [some x0, none, none]) := rfl
theorem run__law_draw (wf k : Nat) (x0 x1 : D) : Dt.run P0 wf (k + 1) 19 [x0, x1] = endF [0] (evS ⟨Dt.run P0 wf k, wf, P0.sub⟩ b__law_draw [some x0, some x1, none, none, none]) := rfl
theorem run__law_shuffled (wf k : Nat) (x0 x1 : D) : Dt.run P0 wf (k + 1) 20 [x0, x1] = endF [0] (evS ⟨Dt.run P0 wf k, wf, P0.sub⟩ b__law_shuffled [some x0, some x1, none, none, none, none]) := rfl
theorem run__law_by_turns (wf k : Nat) (x0 x1 x2 : D) : Dt.run P0 wf (k + 1) 21 [x0, x1, x2] = endF [] (evS ⟨Dt.run P0 wf k, wf, P0.sub⟩ b__law_by_turns [some x0, some x1, some x2, none, none]) := rfl
theorem run__law_told_web (wf k : Nat) (x0 x1 : D) : Dt.run P0 wf (k + 1) 22 [x0, x1] = endF [] (evS ⟨Dt.run P0 wf k, wf, P0.sub⟩ b__law_told_web [some x0, some x1, none, none, none]) := rfl
theorem run__law_chord (wf k : Nat) (x0 x1 : D) : Dt.run P0 wf (k + 1) 23 [x0, x1] = endF [0] (evS ⟨Dt.run P0 wf k, wf, P0.sub⟩ b__law_chord [some x0, some x1, none, none, none, none]) := rfl
theorem run__law_least (wf k : Nat) (x0 : D) : Dt.run P0 wf (k + 1) 24 [x0] = endF [] (evS ⟨Dt.run P0 wf k, wf, P0.sub⟩ b__law_least [some x0, none, none, none]) := rfl
theorem run_law (wf k : Nat) (x0 : D) : Dt.run P0 wf (k + 1) 25 [x0] = endF [] (evS ⟨Dt.run P0 wf k, wf, P0.sub⟩ b_law [some x0, none, none, none, none, none, none, none, none, none]) := rfl
def fa : List He.Fa := [.glo "is_whole", .glo "is_count", .glo "need_count", .glo "is_place", .glo "is_word_in", .glo "need_word", .glo "struck", .glo "by_turns", .glo "told_in", .glo "web_told", .glo "counts_in", .glo "is_even_in", .glo "turned_word", .glo "gone_round", .glo "is_chord_in", .glo "need_chords", .glo "round_in", .glo "least_round", .glo "_law_pen", .glo "_law_draw", .glo "_law_shuffled", .glo "_law_by_turns", .glo "_law_told_web", .glo "_law_chord", .glo "_law_least", .glo "law", .free "len", .free "int", .free "min", .free "max", .free "list", .free "tuple", .free "repr", .free "all", .free "isinstance", .free "bool", .free "range", .free "zip"]
abbrev LS := List PySem.Str
def loose : List PySem.Str := ((["TurnError", "BadNumber", "BadWord", "NotKept", "is_whole", "is_count", "need_count", "is_place", "is_word_in", "need_word", "struck", "by_turns", "told_in", "web_told", "counts_in", "is_even_in", "turned_word", "gone_round", "is_chord_in", "need_chords", "round_in", "least_round", "_law_pen", "_law_draw", "_law_shuffled", "_law_by_turns", "_law_told_web", "_law_chord", "_law_least"] : LS))
abbrev R : PySem.W.OpenRow := PySem.W.OpenLaw.row PySem.Challenge.rw_turnabouts_k36_whole_least_rounds
abbrev hk : PySem.W.Hook := He.hookX 6 fa (ds.map DefC.dd) [] [] noList
def ob (s : PySem.W.SharedT) : He.AlX := He.obsX 6 fa (ds.map DefC.dd) [] [] noList (HandSHeadRun.getT s)
theorem ob_eq (s : PySem.W.SharedT) : ob s = hk.obs s.abs := He.obsX_eq (HandSHeadRun.getT_eq s)
theorem run (w : World) : HandSHeadRun.RunEq R (PySem.W.view R.prog [34]) hk ob 4000 loose w := by
  intro os
  kernel_rfl
theorem chk : ds.all (fun d => defOk (ds.map DefC.sig) bn d) = true := by kernel_rfl
theorem bd_is_whole : d_is_whole.Bnd := fun _ _ _ _ _ _ us hl => match us, hl with
  | [_], _ => rfl
theorem bd_is_count : d_is_count.Bnd := fun _ _ _ _ _ _ us hl => match us, hl with
  | [_], _ => rfl
theorem bd_need_count : d_need_count.Bnd := fun _ _ _ _ _ _ us hl => match us, hl with
  | [_, _], _ => rfl
theorem bd_is_place : d_is_place.Bnd := fun _ _ _ _ _ _ us hl => match us, hl with
  | [_, _], _ => rfl
theorem bd_is_word_in : d_is_word_in.Bnd := fun _ _ _ _ _ _ us hl => match us, hl with
  | [_, _], _ => rfl
theorem bd_need_word : d_need_word.Bnd := fun _ _ _ _ _ _ us hl => match us, hl with
  | [_, _], _ => rfl
theorem bd_struck : d_struck.Bnd := fun _ _ _ _ _ _ us hl => match us, hl with
  | [_, _], _ => rfl
theorem bd_by_turns : d_by_turns.Bnd := fun _ _ _ _ _ _ us hl => match us, hl with
  | [_, _, _], _ => rfl
theorem bd_told_in : d_told_in.Bnd := fun _ _ _ _ _ _ us hl => match us, hl with
  | [_, _], _ => rfl
theorem bd_web_told : d_web_told.Bnd := fun _ _ _ _ _ _ us hl => match us, hl with
  | [_, _], _ => rfl
theorem bd_counts_in : d_counts_in.Bnd := fun _ _ _ _ _ _ us hl => match us, hl with
  | [_, _], _ => rfl
theorem bd_is_even_in : d_is_even_in.Bnd := fun _ _ _ _ _ _ us hl => match us, hl with
  | [_, _], _ => rfl
theorem bd_turned_word : d_turned_word.Bnd := fun _ _ _ _ _ _ us hl => match us, hl with
  | [_, _], _ => rfl
theorem bd_gone_round : d_gone_round.Bnd := fun _ _ _ _ _ _ us hl => match us, hl with
  | [_, _, _], _ => rfl
theorem bd_is_chord_in : d_is_chord_in.Bnd := fun _ _ _ _ _ _ us hl => match us, hl with
  | [_, _], _ => rfl
theorem bd_need_chords : d_need_chords.Bnd := fun _ _ _ _ _ _ us hl => match us, hl with
  | [_, _], _ => rfl
theorem bd_round_in : d_round_in.Bnd := fun _ _ _ _ _ _ us hl => match us, hl with
  | [_], _ => rfl
theorem bd_least_round : d_least_round.Bnd := fun _ _ _ _ _ _ us hl => match us, hl with
  | [_, _], _ => rfl
theorem bd__law_pen : d__law_pen.Bnd := fun _ _ _ _ _ _ us hl => match us, hl with
  | [_], _ => rfl
theorem bd__law_draw : d__law_draw.Bnd := fun _ _ _ _ _ _ us hl => match us, hl with
  | [_, _], _ => rfl
theorem bd__law_shuffled : d__law_shuffled.Bnd := fun _ _ _ _ _ _ us hl => match us, hl with
  | [_, _], _ => rfl
theorem bd__law_by_turns : d__law_by_turns.Bnd := fun _ _ _ _ _ _ us hl => match us, hl with
  | [_, _, _], _ => rfl
theorem bd__law_told_web : d__law_told_web.Bnd := fun _ _ _ _ _ _ us hl => match us, hl with
  | [_, _], _ => rfl
theorem bd__law_chord : d__law_chord.Bnd := fun _ _ _ _ _ _ us hl => match us, hl with
  | [_, _], _ => rfl
theorem bd__law_least : d__law_least.Bnd := fun _ _ _ _ _ _ us hl => match us, hl with
  | [_], _ => rfl
theorem bd_law : d_law.Bnd := fun _ _ _ _ _ _ us hl => match us, hl with
  | [_], _ => rfl
theorem bds : ∀ d ∈ ds, d.Bnd := List.forall_mem_cons.mpr ⟨bd_is_whole, List.forall_mem_cons.mpr ⟨bd_is_count, List.forall_mem_cons.mpr ⟨bd_need_count, List.forall_mem_cons.mpr ⟨bd_is_place, List.forall_mem_cons.mpr ⟨bd_is_word_in, List.forall_mem_cons.mpr ⟨bd_need_word, List.forall_mem_cons.mpr ⟨bd_struck, List.forall_mem_cons.mpr ⟨bd_by_turns, List.forall_mem_cons.mpr ⟨bd_told_in, List.forall_mem_cons.mpr ⟨bd_web_told, List.forall_mem_cons.mpr ⟨bd_counts_in, List.forall_mem_cons.mpr ⟨bd_is_even_in, List.forall_mem_cons.mpr ⟨bd_turned_word, List.forall_mem_cons.mpr ⟨bd_gone_round, List.forall_mem_cons.mpr ⟨bd_is_chord_in, List.forall_mem_cons.mpr ⟨bd_need_chords, List.forall_mem_cons.mpr ⟨bd_round_in, List.forall_mem_cons.mpr ⟨bd_least_round, List.forall_mem_cons.mpr ⟨bd__law_pen, List.forall_mem_cons.mpr ⟨bd__law_draw, List.forall_mem_cons.mpr ⟨bd__law_shuffled, List.forall_mem_cons.mpr ⟨bd__law_by_turns, List.forall_mem_cons.mpr ⟨bd__law_told_web, List.forall_mem_cons.mpr ⟨bd__law_chord, List.forall_mem_cons.mpr ⟨bd__law_least, List.forall_mem_cons.mpr ⟨bd_law, fun _ h => (nomatch h)⟩⟩⟩⟩⟩⟩⟩⟩⟩⟩⟩⟩⟩⟩⟩⟩⟩⟩⟩⟩⟩⟩⟩⟩⟩⟩
theorem bls : ∀ x ∈ bn, He.Fa.free x ∈ fa := by
  intro x hx
  simp only [bn, List.mem_cons, List.not_mem_nil, or_false] at hx
  rcases hx with rfl | rfl | rfl | rfl | rfl | rfl | rfl | rfl | rfl | rfl | rfl | rfl <;> simp [fa]
theorem gls : ∀ d ∈ ds, He.Fa.glo d.name ∈ fa := by
  intro d hd
  simp only [ds, List.mem_cons, List.not_mem_nil, or_false] at hd
  rcases hd with rfl | rfl | rfl | rfl | rfl | rfl | rfl | rfl | rfl | rfl | rfl | rfl | rfl | rfl | rfl | rfl | rfl | rfl | rfl | rfl | rfl | rfl | rfl | rfl | rfl | rfl <;> simp [fa, d_is_whole, d_is_count, d_need_count, d_is_place, d_is_word_in, d_need_word, d_struck, d_by_turns, d_told_in, d_web_told, d_counts_in, d_is_even_in, d_turned_word, d_gone_round, d_is_chord_in, d_need_chords, d_round_in, d_least_round, d__law_pen, d__law_draw, d__law_shuffled, d__law_by_turns, d__law_told_web, d__law_chord, d__law_least, d_law]
end K36
open PySem PySem.W PySem.Calls PyProof.Rows
theorem K36.holds (main : ∀ ns : List Int, ns.length ≤ 63 → ∃ ls, Dt.run K36.P0 0 20 25 [.list (ns.map .int)] = .ret (.bool true) ls) : PySem.Challenge.rw_turnabouts_k36_whole_least_rounds.Holds := by
  w_on; o_law
  refine HandSHeadRun.head_any (r := OpenLaw.row PySem.Challenge.rw_turnabouts_k36_whole_least_rounds) (q := view (OpenLaw.row PySem.Challenge.rw_turnabouts_k36_whole_least_rounds).prog [34]) (H := K36.hk) (ob := K36.ob) (M := 4000) (loose := K36.loose) (d := HandSHeadRun.topDef (OpenLaw.row PySem.Challenge.rw_turnabouts_k36_whole_least_rounds).prog 34) (kwd := []) K36.ob_eq
    (by kernel_rfl) (fun s => by kernel_rfl) K36.run (by kernel_rfl) (by kernel_rfl) (by kernel_rfl) (by rfl) (by first | assumption | decide +kernel) (by decide +kernel) ⟨rfl, rfl, rfl, rfl, rfl, by decide +kernel⟩ ?hw ?hc
  case hw => w_witness2
  case hc => exact Dt.law_end (l := PySem.Challenge.rw_turnabouts_k36_whole_least_rounds) (x := "script") (n := 63) (k := 20) (ex := Dt.noList) K36.P0 0 rfl (by decide) (by kernel_rfl) ⟨rfl, by decide, by decide⟩ (by kernel_rfl) (fun _ h => h) rfl K36.chk K36.bls K36.gls K36.bds (show K36.ds[25]? = some K36.d_law from rfl) rfl rfl rfl rfl main
end
section
set_option Elab.async false
set_option linter.all false
set_option maxRecDepth 100000
set_option maxHeartbeats 4000000
namespace K36
open PySem Dt
theorem f_is_whole (k : Nat) (i : Int) : Dt.run P0 0 (k + 1) 0 [.int i] = .ret (.bool true) [] := by
  rw [run_is_whole]
  unfold b_is_whole
  simp only [evS_seq, evS_skip, evS_frz, evS_set, evS_exp, evS_ret, evS_ite, evS_par, evS_putS, evS_putA, evS_for, evT_op, evT_call, evT_var, evT_bl, evT_and, evT_or, evT_not, evE_var, evE_non, evE_bl, evE_int, evE_str, evE_op, evE_and, evE_or, evE_not, evE_ite, evE_tup, evE_lst, fin0, fin1, fin2, fin3, evE_dsp, evE_call, evE_mut, evE_lc, evE_lc2, evE_dc, evL_nil, evL_pk, evL_lnt, evL_var, evL_non, evL_bl, evL_int, evL_str, evL_op, evL_tup, evL_lst, evL_call, evL_lc, evL_lc2, evL_dc, evL_ite, evL_and, evL_or, evL_not, bind_ok, ofE_ok, ofO_some, next_nx, next_ret, rdS_0, rdS_s, Option.isSome_some, if_true, Bool.false_eq_true, if_false, lnts, callO, back, endF, readAll, Option.map_some, Option.bind_some, List.set_cons_zero, List.set_cons_succ, asgT, Dt.truthy, opR, opF, isIntD, isBoolD, Bool.not_false]
theorem f_is_count (k : Nat) (i : Int) (h : 0 ≤ i) : Dt.run P0 0 (k + 2) 1 [.int i] = .ret (.bool true) [] := by
  rw [run_is_count]
  unfold b_is_count
  simp only [evS_seq, evS_skip, evS_frz, evS_set, evS_exp, evS_ret, evS_ite, evS_par, evS_putS, evS_putA, evS_for, evT_op, evT_call, evT_var, evT_bl, evT_and, evT_or, evT_not, evE_var, evE_non, evE_bl, evE_int, evE_str, evE_op, evE_and, evE_or, evE_not, evE_ite, evE_tup, evE_lst, fin0, fin1, fin2, fin3, evE_dsp, evE_call, evE_mut, evE_lc, evE_lc2, evE_dc, evL_nil, evL_pk, evL_lnt, evL_var, evL_non, evL_bl, evL_int, evL_str, evL_op, evL_tup, evL_lst, evL_call, evL_lc, evL_lc2, evL_dc, evL_ite, evL_and, evL_or, evL_not, bind_ok, ofE_ok, ofO_some, next_nx, next_ret, rdS_0, rdS_s, Option.isSome_some, if_true, Bool.false_eq_true, if_false, lnts, callO, back, endF, readAll, Option.map_some, Option.bind_some, List.set_cons_zero, List.set_cons_succ, asgT, Dt.truthy, opR, opF, f_is_whole, dLe, dBool, h, decide_true]
theorem f_need_count (k : Nat) (s : D) (i : Int) (h : 0 ≤ i) : Dt.run P0 0 (k + 3) 2 [s, .int i] = .ret .none [] := by
  rw [run_need_count]
  unfold b_need_count
  simp only [evS_seq, evS_skip, evS_frz, evS_set, evS_exp, evS_ret, evS_ite, evS_par, evS_putS, evS_putA, evS_for, evT_op, evT_call, evT_var, evT_bl, evT_and, evT_or, evT_not, evE_var, evE_non, evE_bl, evE_int, evE_str, evE_op, evE_and, evE_or, evE_not, evE_ite, evE_tup, evE_lst, fin0, fin1, fin2, fin3, evE_dsp, evE_call, evE_mut, evE_lc, evE_lc2, evE_dc, evL_nil, evL_pk, evL_lnt, evL_var, evL_non, evL_bl, evL_int, evL_str, evL_op, evL_tup, evL_lst, evL_call, evL_lc, evL_lc2, evL_dc, evL_ite, evL_and, evL_or, evL_not, bind_ok, ofE_ok, ofO_some, next_nx, next_ret, rdS_0, rdS_s, Option.isSome_some, if_true, Bool.false_eq_true, if_false, lnts, callO, back, endF, readAll, Option.map_some, Option.bind_some, List.set_cons_zero, List.set_cons_succ, asgT, Dt.truthy, opR, opF, f_is_count _ _ h, Bool.not_true]
theorem f_is_place (k : Nat) (n i : Int) (h : 0 ≤ i) (h2 : i < n) : Dt.run P0 0 (k + 3) 3 [.int n, .int i] = .ret (.bool true) [] := by
  rw [run_is_place]
  unfold b_is_place
  simp only [evS_seq, evS_skip, evS_frz, evS_set, evS_exp, evS_ret, evS_ite, evS_par, evS_putS, evS_putA, evS_for, evT_op, evT_call, evT_var, evT_bl, evT_and, evT_or, evT_not, evE_var, evE_non, evE_bl, evE_int, evE_str, evE_op, evE_and, evE_or, evE_not, evE_ite, evE_tup, evE_lst, fin0, fin1, fin2, fin3, evE_dsp, evE_call, evE_mut, evE_lc, evE_lc2, evE_dc, evL_nil, evL_pk, evL_lnt, evL_var, evL_non, evL_bl, evL_int, evL_str, evL_op, evL_tup, evL_lst, evL_call, evL_lc, evL_lc2, evL_dc, evL_ite, evL_and, evL_or, evL_not, bind_ok, ofE_ok, ofO_some, next_nx, next_ret, rdS_0, rdS_s, Option.isSome_some, if_true, Bool.false_eq_true, if_false, lnts, callO, back, endF, readAll, Option.map_some, Option.bind_some, List.set_cons_zero, List.set_cons_succ, asgT, Dt.truthy, opR, opF, f_is_count _ _ h, dLt, dBool, h2, decide_true]
/-! ### cuts -/
theorem sIx_nn (n : Nat) : HT.sIx n n none = n := rfl
theorem sIx_z (n : Nat) : HT.sIx n 0 none = 0 := rfl
theorem sIx_pos (n d : Nat) (v : Nat) : HT.sIx n d (some (v : Int)) = min v n := by
  show (if (v : Int) < 0 then ((v : Int) + n).toNat else min (v : Int).toNat n) = _
  rw [if_neg (by omega), Int.toNat_natCast]
theorem cut_lo {α : Type} (xs : List α) (v : Nat) : cutD xs (some (v : Int)) none = xs.drop v := by
  unfold cutD
  rw [sIx_pos, sIx_nn]
  by_cases h : v ≤ xs.length
  · rw [Nat.min_eq_left h]
    exact List.take_of_length_le (by rw [List.length_drop]; exact Nat.le_refl _)
  · have h : xs.length ≤ v := by omega
    rw [Nat.min_eq_right h, List.drop_eq_nil_of_le h, List.drop_eq_nil_of_le (Nat.le_refl _)]
    simp
theorem cut_hi {α : Type} (xs : List α) (v : Nat) : cutD xs none (some (v : Int)) = xs.take v := by
  unfold cutD
  rw [sIx_pos, sIx_z, List.drop_zero, Nat.sub_zero]
  by_cases h : v ≤ xs.length
  · rw [Nat.min_eq_left h]
  · have h : xs.length ≤ v := by omega
    rw [Nat.min_eq_right h, List.take_of_length_le h, List.take_of_length_le (Nat.le_refl _)]
abbrev iL (w : List Int) : List D := w.map PyData.int
abbrev tp (w : List Int) : D := .tuple (iL w)
theorem sl24 : sizeLine = 16777216 := sizeLine_eq
/-! ### words -/
theorem okD_ints (w : List Int) : PyData.canLayAll0 (iL w) = true ∧ PyData.depthAll (iL w) ≤ 1 := by
  induction w with
  | nil => exact ⟨rfl, by simp [PyData.depthAll]⟩
  | cons x w ih =>
    refine ⟨?_, ?_⟩
    · show (PyData.canLay0 (.int x) && PyData.canLayAll0 (iL w)) = true
      rw [ih.1]
      rfl
    · show PyData.depthAll (PyData.int x :: iL w) ≤ 1
      have := ih.2
      simp only [PyData.depthAll, PyData.depth]
      omega
theorem okD_tp (w : List Int) : okD (tp w) = true := by
  obtain ⟨h1, h2⟩ := okD_ints w
  show (PyData.canLayAll0 (iL w) && decide (PyData.depth (tp w) ≤ 64)) = true
  rw [h1]
  have : PyData.depth (tp w) ≤ 64 := by
    show PyData.depth (.tuple (iL w)) ≤ 64
    simp only [PyData.depth]
    omega
  simp [this]
theorem okD_int (x : Int) : okD (.int x) = true := rfl
theorem eqv_int (x y : Int) : PyData.eqv (.int x) (.int y) = decide (x = y) := by
  simp [PyData.eqv, Bool.beq_eq_decide_eq]
theorem f_struck (k : Nat) (w : List Int) (a b : Int) (hl : w.length ≤ sizeLine) : Dt.run P0 0 (k + 1) 6 [tp w, tp [a, b]] = .ret (.list (iL (w.filter fun x => decide (x = a) || decide (x = b)))) [] := by
  rw [run_struck]
  unfold b_struck
  simp only [evS_seq, evS_skip, evS_frz, evS_set, evS_exp, evS_ret, evS_ite, evS_par, evS_putS, evS_putA, evS_for, evT_op, evT_call, evT_var, evT_bl, evT_and, evT_or, evT_not, evE_var, evE_non, evE_bl, evE_int, evE_str, evE_op, evE_and, evE_or, evE_not, evE_ite, evE_tup, evE_lst, fin0, fin1, fin2, fin3, evE_dsp, evE_call, evE_mut, evE_lc, evE_lc2, evE_dc, evL_nil, evL_pk, evL_lnt, evL_var, evL_non, evL_bl, evL_int, evL_str, evL_op, evL_tup, evL_lst, evL_call, evL_lc, evL_lc2, evL_dc, evL_ite, evL_and, evL_or, evL_not, bind_ok, ofE_ok, ofO_some, next_nx, next_ret, rdS_0, rdS_s, Option.isSome_some, if_true, Bool.false_eq_true, if_false, lnts, callO, back, endF, readAll, Option.map_some, Option.bind_some, List.set_cons_zero, List.set_cons_succ, asgT, Dt.truthy, items1, itemsF, Dt.listOf]
  rw [run_pure (fun d => match d with | .int x => decide (x = a) || decide (x = b) | _ => false) id (w0 := [some (tp w), some (tp [a, b]), none]) rfl (by simpa using hl)]
  · simp only [evS_seq, evS_skip, evS_frz, evS_set, evS_exp, evS_ret, evS_ite, evS_par, evS_putS, evS_putA, evS_for, evT_op, evT_call, evT_var, evT_bl, evT_and, evT_or, evT_not, evE_var, evE_non, evE_bl, evE_int, evE_str, evE_op, evE_and, evE_or, evE_not, evE_ite, evE_tup, evE_lst, fin0, fin1, fin2, fin3, evE_dsp, evE_call, evE_mut, evE_lc, evE_lc2, evE_dc, evL_nil, evL_pk, evL_lnt, evL_var, evL_non, evL_bl, evL_int, evL_str, evL_op, evL_tup, evL_lst, evL_call, evL_lc, evL_lc2, evL_dc, evL_ite, evL_and, evL_or, evL_not, bind_ok, ofE_ok, ofO_some, next_nx, next_ret, rdS_0, rdS_s, Option.isSome_some, if_true, Bool.false_eq_true, if_false, lnts, callO, back, endF, readAll, Option.map_some, Option.bind_some, List.set_cons_zero, List.set_cons_succ, asgT, Dt.truthy]
    congr 2
    rw [List.map_id, List.filter_map]
    rfl
  · intro d hd
    obtain ⟨x, hx, rfl⟩ := List.mem_map.mp hd
    refine ⟨[some (tp w), some (tp [a, b]), some (.int x)], rfl, rfl, ?_, fun _ => ?_⟩
    · have e : dIn (.int x) (tp [a, b]) = some (decide (x = a) || decide (x = b)) := by
        show (if okD (.int x) && okD (tp [a, b]) then some ((iL [a, b]).any fun z => PyData.eqv z (.int x)) else none) = _
        rw [okD_tp]
        simp [okD_int, eqv_int, eq_comm]
      simp only [evS_seq, evS_skip, evS_frz, evS_set, evS_exp, evS_ret, evS_ite, evS_par, evS_putS, evS_putA, evS_for, evT_op, evT_call, evT_var, evT_bl, evT_and, evT_or, evT_not, evE_var, evE_non, evE_bl, evE_int, evE_str, evE_op, evE_and, evE_or, evE_not, evE_ite, evE_tup, evE_lst, fin0, fin1, fin2, fin3, evE_dsp, evE_call, evE_mut, evE_lc, evE_lc2, evE_dc, evL_nil, evL_pk, evL_lnt, evL_var, evL_non, evL_bl, evL_int, evL_str, evL_op, evL_tup, evL_lst, evL_call, evL_lc, evL_lc2, evL_dc, evL_ite, evL_and, evL_or, evL_not, bind_ok, ofE_ok, ofO_some, next_nx, next_ret, rdS_0, rdS_s, Option.isSome_some, if_true, Bool.false_eq_true, if_false, lnts, callO, back, endF, readAll, Option.map_some, Option.bind_some, List.set_cons_zero, List.set_cons_succ, asgT, Dt.truthy, opR, opF, dBool, e]
    · simp only [evS_seq, evS_skip, evS_frz, evS_set, evS_exp, evS_ret, evS_ite, evS_par, evS_putS, evS_putA, evS_for, evT_op, evT_call, evT_var, evT_bl, evT_and, evT_or, evT_not, evE_var, evE_non, evE_bl, evE_int, evE_str, evE_op, evE_and, evE_or, evE_not, evE_ite, evE_tup, evE_lst, fin0, fin1, fin2, fin3, evE_dsp, evE_call, evE_mut, evE_lc, evE_lc2, evE_dc, evL_nil, evL_pk, evL_lnt, evL_var, evL_non, evL_bl, evL_int, evL_str, evL_op, evL_tup, evL_lst, evL_call, evL_lc, evL_lc2, evL_dc, evL_ite, evL_and, evL_or, evL_not, bind_ok, ofE_ok, ofO_some, next_nx, next_ret, rdS_0, rdS_s, Option.isSome_some, if_true, Bool.false_eq_true, if_false, lnts, callO, back, endF, readAll, Option.map_some, Option.bind_some, List.set_cons_zero, List.set_cons_succ, asgT, Dt.truthy, id]
/-! ### words in which each letter stands twice -/
structure W2 (n : Nat) (w : List Int) : Prop where
  mem : ∀ x ∈ w, 0 ≤ x ∧ x < n
  cnt : ∀ j : Nat, j < n → w.count (j : Int) = 2
  len : w.length = 2 * n
  sm : n ≤ 12
theorem W2.perm {n : Nat} {w w' : List Int} (h : W2 n w) (p : w.Perm w') : W2 n w' := ⟨fun x hx => h.mem x (p.mem_iff.mpr hx), fun j hj => (p.count_eq _).symm.trans (h.cnt j hj), p.length_eq.symm.trans h.len, h.sm⟩
theorem W2.short {n : Nat} {w : List Int} (h : W2 n w) : w.length ≤ 24 := by have := h.len; have := h.sm; omega
theorem W2.here {n : Nat} {w : List Int} (h : W2 n w) {j : Nat} (hj : j < n) : (j : Int) ∈ w := List.count_pos_iff.mp (by rw [h.cnt j hj]; decide)
theorem W2.dd {n : Nat} {w : List Int} (h : W2 n w) : (dedup [] w).length = n := by
  have nd : (dedup [] w).Nodup := dedup_nodup List.nodup_nil
  let rg : List Int := (List.range n).map fun i : Nat => (i : Int)
  have rl : rg.length = n := by simp [rg]
  have rn : rg.Nodup := by
    refine List.pairwise_map.mpr (List.Pairwise.imp (fun {a b} h e => h ?_) (List.nodup_range (n := n)))
    exact Int.ofNat.inj e
  have s1 : ∀ x ∈ dedup [] w, x ∈ rg := fun x hx => by
    have hx : x ∈ w := (dedup_mem.mp hx).elim (fun z => nomatch z) id
    obtain ⟨h1, h2⟩ := h.mem x hx
    exact List.mem_map.mpr ⟨x.toNat, List.mem_range.mpr (by omega), by omega⟩
  have s2 : ∀ x ∈ rg, x ∈ dedup [] w := fun x hx => by
    obtain ⟨j, hj, rfl⟩ := List.mem_map.mp hx
    exact dedup_mem.mpr (.inr (h.here (List.mem_range.mp hj)))
  have l1 := sub_len nd s1
  have l2 := sub_len rn s2
  omega
theorem bools_map {α : Type} (p : α → Bool) : ∀ l : List α, boolsOf (l.map fun x => PyData.bool (p x)) = some (l.map p)
  | [] => rfl
  | x :: l => by
    show (boolsOf (l.map fun x => PyData.bool (p x))).map (p x :: ·) = _
    rw [bools_map p l]
    rfl
theorem dEq_int (a b : Int) : dEq (.int a) (.int b) = some (decide (a = b)) := by
  show (if okD (.int a) && okD (.int b) then some (PyData.eqv (.int a) (.int b)) else none) = _
  rw [eqv_int]
  rfl
theorem filt_all {α : Type} (l : List α) : l.filter (fun _ => true) = l := List.filter_eq_self.mpr fun _ _ => rfl
theorem f_is_word_in (k n : Nat) (w : List Int) (h : W2 n w) : Dt.run P0 0 (k + 4) 4 [.int n, tp w] = .ret (.bool true) [] := by
  have hs := h.short
  rw [run_is_word_in]
  unfold b_is_word_in
  simp only [evS_seq, evS_skip, evS_frz, evS_set, evS_exp, evS_ret, evS_ite, evS_par, evS_putS, evS_putA, evS_for, evT_op, evT_call, evT_var, evT_bl, evT_and, evT_or, evT_not, evE_var, evE_non, evE_bl, evE_int, evE_str, evE_op, evE_and, evE_or, evE_not, evE_ite, evE_tup, evE_lst, fin0, fin1, fin2, fin3, evE_dsp, evE_call, evE_mut, evE_lc, evE_lc2, evE_dc, evL_nil, evL_pk, evL_lnt, evL_var, evL_non, evL_bl, evL_int, evL_str, evL_op, evL_tup, evL_lst, evL_call, evL_lc, evL_lc2, evL_dc, evL_ite, evL_and, evL_or, evL_not, bind_ok, ofE_ok, ofO_some, next_nx, next_ret, rdS_0, rdS_s, Option.isSome_some, if_true, Bool.false_eq_true, if_false, lnts, callO, back, endF, readAll, Option.map_some, Option.bind_some, List.set_cons_zero, List.set_cons_succ, asgT, Dt.truthy, items1, itemsF, Dt.listOf, opR, opF, isTupleD, Bool.not_true]
  rw [run_pure (fun _ => true) (fun _ => .bool true) (w0 := [some (.int n), some (tp w), none]) rfl (by rw [sl24]; simp; omega)]
  · simp only [evS_seq, evS_skip, evS_frz, evS_set, evS_exp, evS_ret, evS_ite, evS_par, evS_putS, evS_putA, evS_for, evT_op, evT_call, evT_var, evT_bl, evT_and, evT_or, evT_not, evE_var, evE_non, evE_bl, evE_int, evE_str, evE_op, evE_and, evE_or, evE_not, evE_ite, evE_tup, evE_lst, fin0, fin1, fin2, fin3, evE_dsp, evE_call, evE_mut, evE_lc, evE_lc2, evE_dc, evL_nil, evL_pk, evL_lnt, evL_var, evL_non, evL_bl, evL_int, evL_str, evL_op, evL_tup, evL_lst, evL_call, evL_lc, evL_lc2, evL_dc, evL_ite, evL_and, evL_or, evL_not, bind_ok, ofE_ok, ofO_some, next_nx, next_ret, rdS_0, rdS_s, Option.isSome_some, if_true, Bool.false_eq_true, if_false, lnts, callO, back, endF, readAll, Option.map_some, Option.bind_some, List.set_cons_zero, List.set_cons_succ, asgT, Dt.truthy, items1, itemsF, Dt.listOf, opR, opF, fAll]
    rw [List.filter_eq_self.mpr fun _ _ => rfl]
    have e : boolsOf ((iL w).map fun _ => PyData.bool true) = some ((iL w).map fun _ => true) := bools_map _ _
    have e2 : ((iL w).map fun _ => true).all id = true := by simp
    simp only [evS_seq, evS_skip, evS_frz, evS_set, evS_exp, evS_ret, evS_ite, evS_par, evS_putS, evS_putA, evS_for, evT_op, evT_call, evT_var, evT_bl, evT_and, evT_or, evT_not, evE_var, evE_non, evE_bl, evE_int, evE_str, evE_op, evE_and, evE_or, evE_not, evE_ite, evE_tup, evE_lst, fin0, fin1, fin2, fin3, evE_dsp, evE_call, evE_mut, evE_lc, evE_lc2, evE_dc, evL_nil, evL_pk, evL_lnt, evL_var, evL_non, evL_bl, evL_int, evL_str, evL_op, evL_tup, evL_lst, evL_call, evL_lc, evL_lc2, evL_dc, evL_ite, evL_and, evL_or, evL_not, bind_ok, ofE_ok, ofO_some, next_nx, next_ret, rdS_0, rdS_s, Option.isSome_some, if_true, Bool.false_eq_true, if_false, lnts, callO, back, endF, readAll, Option.map_some, Option.bind_some, List.set_cons_zero, List.set_cons_succ, asgT, Dt.truthy, e, e2, Bool.not_true]
    obtain ⟨es, q1, q2⟩ := dict_ints (own := [2]) (tg := .v 2) (c := evT ⟨Dt.run P0 0 (k + 3), 0, P0.sub⟩ (.bl true)) (ek := evE ⟨Dt.run P0 0 (k + 3), 0, P0.sub⟩ (.var 2)) (ev := evE ⟨Dt.run P0 0 (k + 3), 0, P0.sub⟩ (.bl true)) (σ := [some (.int n), some (tp w), none]) (w0 := [some (.int n), some (tp w), none]) w rfl (by rw [sl24]; omega)
      fun x hx => ⟨[some (.int n), some (tp w), some (.int x)], .bool true, rfl, rfl, by simp only [evS_seq, evS_skip, evS_frz, evS_set, evS_exp, evS_ret, evS_ite, evS_par, evS_putS, evS_putA, evS_for, evT_op, evT_call, evT_var, evT_bl, evT_and, evT_or, evT_not, evE_var, evE_non, evE_bl, evE_int, evE_str, evE_op, evE_and, evE_or, evE_not, evE_ite, evE_tup, evE_lst, fin0, fin1, fin2, fin3, evE_dsp, evE_call, evE_mut, evE_lc, evE_lc2, evE_dc, evL_nil, evL_pk, evL_lnt, evL_var, evL_non, evL_bl, evL_int, evL_str, evL_op, evL_tup, evL_lst, evL_call, evL_lc, evL_lc2, evL_dc, evL_ite, evL_and, evL_or, evL_not, bind_ok, ofE_ok, ofO_some, next_nx, next_ret, rdS_0, rdS_s, Option.isSome_some, if_true, Bool.false_eq_true, if_false, lnts, callO, back, endF, readAll, Option.map_some, Option.bind_some, List.set_cons_zero, List.set_cons_succ, asgT, Dt.truthy], by simp only [evS_seq, evS_skip, evS_frz, evS_set, evS_exp, evS_ret, evS_ite, evS_par, evS_putS, evS_putA, evS_for, evT_op, evT_call, evT_var, evT_bl, evT_and, evT_or, evT_not, evE_var, evE_non, evE_bl, evE_int, evE_str, evE_op, evE_and, evE_or, evE_not, evE_ite, evE_tup, evE_lst, fin0, fin1, fin2, fin3, evE_dsp, evE_call, evE_mut, evE_lc, evE_lc2, evE_dc, evL_nil, evL_pk, evL_lnt, evL_var, evL_non, evL_bl, evL_int, evL_str, evL_op, evL_tup, evL_lst, evL_call, evL_lc, evL_lc2, evL_dc, evL_ite, evL_and, evL_or, evL_not, bind_ok, ofE_ok, ofO_some, next_nx, next_ret, rdS_0, rdS_s, Option.isSome_some, if_true, Bool.false_eq_true, if_false, lnts, callO, back, endF, readAll, Option.map_some, Option.bind_some, List.set_cons_zero, List.set_cons_succ, asgT, Dt.truthy], by simp only [evS_seq, evS_skip, evS_frz, evS_set, evS_exp, evS_ret, evS_ite, evS_par, evS_putS, evS_putA, evS_for, evT_op, evT_call, evT_var, evT_bl, evT_and, evT_or, evT_not, evE_var, evE_non, evE_bl, evE_int, evE_str, evE_op, evE_and, evE_or, evE_not, evE_ite, evE_tup, evE_lst, fin0, fin1, fin2, fin3, evE_dsp, evE_call, evE_mut, evE_lc, evE_lc2, evE_dc, evL_nil, evL_pk, evL_lnt, evL_var, evL_non, evL_bl, evL_int, evL_str, evL_op, evL_tup, evL_lst, evL_call, evL_lc, evL_lc2, evL_dc, evL_ite, evL_and, evL_or, evL_not, bind_ok, ofE_ok, ofO_some, next_nx, next_ret, rdS_0, rdS_s, Option.isSome_some, if_true, Bool.false_eq_true, if_false, lnts, callO, back, endF, readAll, Option.map_some, Option.bind_some, List.set_cons_zero, List.set_cons_succ, asgT, Dt.truthy]⟩
    rw [q1]
    have ln : es.length = n := by
      have := congrArg List.length q2
      rw [List.length_map, List.length_map, h.dd] at this
      exact this
    simp only [evS_seq, evS_skip, evS_frz, evS_set, evS_exp, evS_ret, evS_ite, evS_par, evS_putS, evS_putA, evS_for, evT_op, evT_call, evT_var, evT_bl, evT_and, evT_or, evT_not, evE_var, evE_non, evE_bl, evE_int, evE_str, evE_op, evE_and, evE_or, evE_not, evE_ite, evE_tup, evE_lst, fin0, fin1, fin2, fin3, evE_dsp, evE_call, evE_mut, evE_lc, evE_lc2, evE_dc, evL_nil, evL_pk, evL_lnt, evL_var, evL_non, evL_bl, evL_int, evL_str, evL_op, evL_tup, evL_lst, evL_call, evL_lc, evL_lc2, evL_dc, evL_ite, evL_and, evL_or, evL_not, bind_ok, ofE_ok, ofO_some, next_nx, next_ret, rdS_0, rdS_s, Option.isSome_some, if_true, Bool.false_eq_true, if_false, lnts, callO, back, endF, readAll, Option.map_some, Option.bind_some, List.set_cons_zero, List.set_cons_succ, asgT, Dt.truthy, opR, opF, fLen, ln, dEq_int, dBool, decide_true]
  · intro d hd
    obtain ⟨x, hx, rfl⟩ := List.mem_map.mp hd
    obtain ⟨h1, h2⟩ := h.mem x hx
    exact ⟨[some (.int n), some (tp w), some (.int x)], rfl, rfl, by simp only [evS_seq, evS_skip, evS_frz, evS_set, evS_exp, evS_ret, evS_ite, evS_par, evS_putS, evS_putA, evS_for, evT_op, evT_call, evT_var, evT_bl, evT_and, evT_or, evT_not, evE_var, evE_non, evE_bl, evE_int, evE_str, evE_op, evE_and, evE_or, evE_not, evE_ite, evE_tup, evE_lst, fin0, fin1, fin2, fin3, evE_dsp, evE_call, evE_mut, evE_lc, evE_lc2, evE_dc, evL_nil, evL_pk, evL_lnt, evL_var, evL_non, evL_bl, evL_int, evL_str, evL_op, evL_tup, evL_lst, evL_call, evL_lc, evL_lc2, evL_dc, evL_ite, evL_and, evL_or, evL_not, bind_ok, ofE_ok, ofO_some, next_nx, next_ret, rdS_0, rdS_s, Option.isSome_some, if_true, Bool.false_eq_true, if_false, lnts, callO, back, endF, readAll, Option.map_some, Option.bind_some, List.set_cons_zero, List.set_cons_succ, asgT, Dt.truthy], fun _ => by simp only [evS_seq, evS_skip, evS_frz, evS_set, evS_exp, evS_ret, evS_ite, evS_par, evS_putS, evS_putA, evS_for, evT_op, evT_call, evT_var, evT_bl, evT_and, evT_or, evT_not, evE_var, evE_non, evE_bl, evE_int, evE_str, evE_op, evE_and, evE_or, evE_not, evE_ite, evE_tup, evE_lst, fin0, fin1, fin2, fin3, evE_dsp, evE_call, evE_mut, evE_lc, evE_lc2, evE_dc, evL_nil, evL_pk, evL_lnt, evL_var, evL_non, evL_bl, evL_int, evL_str, evL_op, evL_tup, evL_lst, evL_call, evL_lc, evL_lc2, evL_dc, evL_ite, evL_and, evL_or, evL_not, bind_ok, ofE_ok, ofO_some, next_nx, next_ret, rdS_0, rdS_s, Option.isSome_some, if_true, Bool.false_eq_true, if_false, lnts, callO, back, endF, readAll, Option.map_some, Option.bind_some, List.set_cons_zero, List.set_cons_succ, asgT, Dt.truthy, f_is_place k n x h1 h2]⟩
theorem f_need_word (k n : Nat) (w : List Int) (h : W2 n w) : Dt.run P0 0 (k + 5) 5 [.int n, tp w] = .ret .none [] := by
  rw [run_need_word]
  unfold b_need_word
  simp only [evS_seq, evS_skip, evS_frz, evS_set, evS_exp, evS_ret, evS_ite, evS_par, evS_putS, evS_putA, evS_for, evT_op, evT_call, evT_var, evT_bl, evT_and, evT_or, evT_not, evE_var, evE_non, evE_bl, evE_int, evE_str, evE_op, evE_and, evE_or, evE_not, evE_ite, evE_tup, evE_lst, fin0, fin1, fin2, fin3, evE_dsp, evE_call, evE_mut, evE_lc, evE_lc2, evE_dc, evL_nil, evL_pk, evL_lnt, evL_var, evL_non, evL_bl, evL_int, evL_str, evL_op, evL_tup, evL_lst, evL_call, evL_lc, evL_lc2, evL_dc, evL_ite, evL_and, evL_or, evL_not, bind_ok, ofE_ok, ofO_some, next_nx, next_ret, rdS_0, rdS_s, Option.isSome_some, if_true, Bool.false_eq_true, if_false, lnts, callO, back, endF, readAll, Option.map_some, Option.bind_some, List.set_cons_zero, List.set_cons_succ, asgT, Dt.truthy, f_need_count (k + 1) (.str "places") n (by omega), f_is_word_in k n w h, Bool.not_true]
/-! ### counts -/
theorem e_zero (n : Nat) (hs : n ≤ 12) : opF .mul [PyData.list [.int 0], .int n] = some (PyData.list (iL (List.replicate n 0))) := by
    show fMul (PyData.list [.int 0]) (.int n) = _
    unfold fMul
    simp only
    rw [if_pos ⟨by omega, by omega, by rw [sl24, Int.toNat_natCast]; simp; omega⟩, Int.toNat_natCast]
    congr 2
    show _ = (List.replicate n (0 : Int)).map PyData.int
    rw [List.map_replicate]
    clear hs
    induction n with
    | zero => rfl
    | succ n ih => rw [List.replicate_succ, List.replicate_succ, List.flatten_cons, ih]; rfl
end K36
end
section
set_option Elab.async false
set_option linter.all false
set_option maxRecDepth 100000
set_option maxHeartbeats 4000000
namespace K36
open PySem Dt
theorem e_aug (cs : List Int) (x : Int) (h1 : 0 ≤ x) (hx : x.toNat < cs.length) : mopF .augAdd (.list (iL cs)) [.int x, .int 1] = some (.none, .list (iL (cs.set x.toNat (cs[x.toNat] + 1)))) := by
  have i1 : ixD (iL cs).length x = some x.toNat := by
    unfold ixD
    rw [if_pos h1, if_pos (by simp; omega)]
  have i2 : (iL cs)[x.toNat]? = some (.int cs[x.toNat]) := by
    rw [List.getElem?_map, List.getElem?_eq_getElem hx]
    rfl
  unfold mopF
  simp only [i1, i2, Option.bind_some, List.map_set]
theorem s_counts (V : Ev) (a b o : Option D) (cs : List Int) (x : Int) (h1 : 0 ≤ x) (hx : x.toNat < cs.length) : forF V (.v 3) (.seq (.put .augAdd 2 (.var 3) (.int 1)) .skip) (.int x) [a, b, some (.list (iL cs)), o] = .nx [a, b, some (.list (iL (cs.set x.toNat (cs[x.toNat] + 1)))), some (.int x)] := by
  unfold forF
  simp only [evS_seq, evS_skip, evS_frz, evS_set, evS_exp, evS_ret, evS_ite, evS_par, evS_putS, evS_putA, evS_for, evT_op, evT_call, evT_var, evT_bl, evT_and, evT_or, evT_not, evE_var, evE_non, evE_bl, evE_int, evE_str, evE_op, evE_and, evE_or, evE_not, evE_ite, evE_tup, evE_lst, fin0, fin1, fin2, fin3, evE_dsp, evE_call, evE_mut, evE_lc, evE_lc2, evE_dc, evL_nil, evL_pk, evL_lnt, evL_var, evL_non, evL_bl, evL_int, evL_str, evL_op, evL_tup, evL_lst, evL_call, evL_lc, evL_lc2, evL_dc, evL_ite, evL_and, evL_or, evL_not, bind_ok, ofE_ok, ofO_some, next_nx, next_ret, rdS_0, rdS_s, Option.isSome_some, if_true, Bool.false_eq_true, if_false, lnts, callO, back, endF, readAll, Option.map_some, Option.bind_some, List.set_cons_zero, List.set_cons_succ, asgT, Dt.truthy, mutO, e_aug cs x h1 hx]
theorem cnt_step {cs rs : List Int} {x : Int} {j : Nat} (h1 : 0 ≤ x) (hx : x.toNat < cs.length) (c : cs[j]?.getD 0 + (x :: rs).count (j : Int) = 2) : (cs.set x.toNat (cs[x.toNat] + 1))[j]?.getD 0 + rs.count (j : Int) = 2 := by
  rw [List.count_cons] at c
  by_cases q : x.toNat = j
  · subst q
    have e : ((x.toNat : Nat) : Int) = x := by omega
    rw [List.getElem?_set_self hx]
    rw [List.getElem?_eq_getElem hx, e] at c
    rw [e]
    simp only [beq_self_eq_true, if_true, Option.getD_some] at c ⊢
    omega
  · rw [List.getElem?_set_ne q]
    have : (x == (j : Int)) = false := by
      rw [beq_eq_false_iff_ne]
      intro z
      apply q
      omega
    rw [this] at c
    simpa using c
theorem ez_ (n : Nat) (hs : n ≤ 12) : opR .mul true [PyData.list [.int 0], .int n] = some (PyData.list (iL (List.replicate n 0))) := by
  unfold opR
  rw [e_zero n hs]
  simp only [Option.bind_some, if_true, frD]
theorem f_counts_in (k n : Nat) (w : List Int) (h : W2 n w) : Dt.run P0 0 (k + 1) 10 [.int n, tp w] = .ret (.list (iL (List.replicate n 2))) [] := by
  have hs := h.sm
  have ez := ez_ n hs
  have loop := for_inv (f := forF ⟨Dt.run P0 0 k, 0, P0.sub⟩ (.v 3) (.seq (.put .augAdd 2 (.var 3) (.int 1)) .skip)) (items := iL w) (σ := [some (.int n), some (tp w), some (.list (iL (List.replicate n 0))), none])
    (fun rest σ => ∃ (rs cs : List Int) (o : Option D), rest = iL rs ∧ σ = [some (.int n), some (tp w), some (.list (iL cs)), o] ∧ cs.length = n ∧ (∀ x ∈ rs, 0 ≤ x ∧ x < n) ∧ ∀ j : Nat, j < n → cs[j]?.getD 0 + rs.count (j : Int) = 2)
    ⟨w, List.replicate n 0, none, rfl, rfl, List.length_replicate, h.mem, fun j hj => by
      rw [h.cnt j hj, List.getElem?_replicate, if_pos hj]
      simp⟩ (by
      rintro d rest σ _ ⟨rs, cs, o, e1, rfl, e3, e4, e5⟩
      cases rs with
      | nil => cases e1
      | cons x rs =>
        cases e1
        obtain ⟨h1, h2⟩ := e4 x (List.mem_cons_self ..)
        have hx : x.toNat < cs.length := by omega
        exact ⟨_, .inl (s_counts _ _ _ _ cs x h1 hx), rs, _, _, rfl, rfl, by rw [List.length_set]; exact e3, fun y hy => e4 y (List.mem_cons_of_mem _ hy), fun j hj => cnt_step h1 hx (e5 j hj)⟩)
  obtain ⟨σ', q1, rs, cs, o, er, rfl, q3, q4, q5⟩ := loop
  cases rs with
  | cons _ _ => cases er
  | nil =>
    have e : cs = List.replicate n 2 := by
      apply List.ext_getElem?
      intro j
      rw [List.getElem?_replicate]
      by_cases hj : j < n
      · rw [if_pos hj]
        have := q5 j hj
        rw [List.getElem?_eq_getElem (by omega)] at this ⊢
        simp at this
        rw [this]
      · rw [if_neg hj, List.getElem?_eq_none (by omega)]
    subst e
    rw [run_counts_in]
    unfold b_counts_in
    simp only [evS_seq, evS_skip, evS_frz, evS_set, evS_exp, evS_ret, evS_ite, evS_par, evS_putS, evS_putA, evS_for, evT_op, evT_call, evT_var, evT_bl, evT_and, evT_or, evT_not, evE_var, evE_non, evE_bl, evE_int, evE_str, evE_op, evE_and, evE_or, evE_not, evE_ite, evE_tup, evE_lst, fin0, fin1, fin2, fin3, evE_dsp, evE_call, evE_mut, evE_lc, evE_lc2, evE_dc, evL_nil, evL_pk, evL_lnt, evL_var, evL_non, evL_bl, evL_int, evL_str, evL_op, evL_tup, evL_lst, evL_call, evL_lc, evL_lc2, evL_dc, evL_ite, evL_and, evL_or, evL_not, bind_ok, ofE_ok, ofO_some, next_nx, next_ret, rdS_0, rdS_s, Option.isSome_some, if_true, Bool.false_eq_true, if_false, lnts, callO, back, endF, readAll, Option.map_some, Option.bind_some, List.set_cons_zero, List.set_cons_succ, asgT, Dt.truthy, ez, items1, itemsF, Dt.listOf]
    rw [q1]
    simp only [evS_seq, evS_skip, evS_frz, evS_set, evS_exp, evS_ret, evS_ite, evS_par, evS_putS, evS_putA, evS_for, evT_op, evT_call, evT_var, evT_bl, evT_and, evT_or, evT_not, evE_var, evE_non, evE_bl, evE_int, evE_str, evE_op, evE_and, evE_or, evE_not, evE_ite, evE_tup, evE_lst, fin0, fin1, fin2, fin3, evE_dsp, evE_call, evE_mut, evE_lc, evE_lc2, evE_dc, evL_nil, evL_pk, evL_lnt, evL_var, evL_non, evL_bl, evL_int, evL_str, evL_op, evL_tup, evL_lst, evL_call, evL_lc, evL_lc2, evL_dc, evL_ite, evL_and, evL_or, evL_not, bind_ok, ofE_ok, ofO_some, next_nx, next_ret, rdS_0, rdS_s, Option.isSome_some, if_true, Bool.false_eq_true, if_false, lnts, callO, back, endF, readAll, Option.map_some, Option.bind_some, List.set_cons_zero, List.set_cons_succ, asgT, Dt.truthy]
end K36
end
section
set_option Elab.async false
set_option linter.all false
set_option maxRecDepth 100000
set_option maxHeartbeats 4000000
namespace K36
open PySem Dt
theorem dd_two (n : Nat) : (dedup [] (List.replicate n 2)).length < 2 := by
  have nd : (dedup [] (List.replicate n 2)).Nodup := dedup_nodup List.nodup_nil
  have s : ∀ x ∈ dedup [] (List.replicate n 2), x ∈ ([2] : List Int) := fun x hx => by
    have hx : x ∈ List.replicate n (2 : Int) := (dedup_mem.mp hx).elim (fun z => nomatch z) id
    rw [List.mem_replicate] at hx
    rw [hx.2]
    exact List.mem_singleton.mpr rfl
  have := sub_len nd s
  simp at this
  omega
theorem f_is_even_in (k n : Nat) (w : List Int) (h : W2 n w) : Dt.run P0 0 (k + 2) 11 [.int n, tp w] = .ret (.bool true) [] := by
  have hs := h.sm
  rw [run_is_even_in]
  unfold b_is_even_in
  simp only [evS_seq, evS_skip, evS_frz, evS_set, evS_exp, evS_ret, evS_ite, evS_par, evS_putS, evS_putA, evS_for, evT_op, evT_call, evT_var, evT_bl, evT_and, evT_or, evT_not, evE_var, evE_non, evE_bl, evE_int, evE_str, evE_op, evE_and, evE_or, evE_not, evE_ite, evE_tup, evE_lst, fin0, fin1, fin2, fin3, evE_dsp, evE_call, evE_mut, evE_lc, evE_lc2, evE_dc, evL_nil, evL_pk, evL_lnt, evL_var, evL_non, evL_bl, evL_int, evL_str, evL_op, evL_tup, evL_lst, evL_call, evL_lc, evL_lc2, evL_dc, evL_ite, evL_and, evL_or, evL_not, bind_ok, ofE_ok, ofO_some, next_nx, next_ret, rdS_0, rdS_s, Option.isSome_some, if_true, Bool.false_eq_true, if_false, lnts, callO, back, endF, readAll, Option.map_some, Option.bind_some, List.set_cons_zero, List.set_cons_succ, asgT, Dt.truthy, f_counts_in k n w h, items1, itemsF, Dt.listOf]
  obtain ⟨es, q1, q2⟩ := dict_ints (own := [2]) (tg := .v 2) (c := evT ⟨Dt.run P0 0 (k + 1), 0, P0.sub⟩ (.bl true)) (ek := evE ⟨Dt.run P0 0 (k + 1), 0, P0.sub⟩ (.var 2)) (ev := evE ⟨Dt.run P0 0 (k + 1), 0, P0.sub⟩ (.bl true)) (σ := [some (.int n), some (tp w), none]) (w0 := [some (.int n), some (tp w), none]) (List.replicate n 2) rfl (by rw [sl24]; simp; omega)
      fun x hx => ⟨[some (.int n), some (tp w), some (.int x)], .bool true, rfl, rfl, by simp only [evS_seq, evS_skip, evS_frz, evS_set, evS_exp, evS_ret, evS_ite, evS_par, evS_putS, evS_putA, evS_for, evT_op, evT_call, evT_var, evT_bl, evT_and, evT_or, evT_not, evE_var, evE_non, evE_bl, evE_int, evE_str, evE_op, evE_and, evE_or, evE_not, evE_ite, evE_tup, evE_lst, fin0, fin1, fin2, fin3, evE_dsp, evE_call, evE_mut, evE_lc, evE_lc2, evE_dc, evL_nil, evL_pk, evL_lnt, evL_var, evL_non, evL_bl, evL_int, evL_str, evL_op, evL_tup, evL_lst, evL_call, evL_lc, evL_lc2, evL_dc, evL_ite, evL_and, evL_or, evL_not, bind_ok, ofE_ok, ofO_some, next_nx, next_ret, rdS_0, rdS_s, Option.isSome_some, if_true, Bool.false_eq_true, if_false, lnts, callO, back, endF, readAll, Option.map_some, Option.bind_some, List.set_cons_zero, List.set_cons_succ, asgT, Dt.truthy], by simp only [evS_seq, evS_skip, evS_frz, evS_set, evS_exp, evS_ret, evS_ite, evS_par, evS_putS, evS_putA, evS_for, evT_op, evT_call, evT_var, evT_bl, evT_and, evT_or, evT_not, evE_var, evE_non, evE_bl, evE_int, evE_str, evE_op, evE_and, evE_or, evE_not, evE_ite, evE_tup, evE_lst, fin0, fin1, fin2, fin3, evE_dsp, evE_call, evE_mut, evE_lc, evE_lc2, evE_dc, evL_nil, evL_pk, evL_lnt, evL_var, evL_non, evL_bl, evL_int, evL_str, evL_op, evL_tup, evL_lst, evL_call, evL_lc, evL_lc2, evL_dc, evL_ite, evL_and, evL_or, evL_not, bind_ok, ofE_ok, ofO_some, next_nx, next_ret, rdS_0, rdS_s, Option.isSome_some, if_true, Bool.false_eq_true, if_false, lnts, callO, back, endF, readAll, Option.map_some, Option.bind_some, List.set_cons_zero, List.set_cons_succ, asgT, Dt.truthy], by simp only [evS_seq, evS_skip, evS_frz, evS_set, evS_exp, evS_ret, evS_ite, evS_par, evS_putS, evS_putA, evS_for, evT_op, evT_call, evT_var, evT_bl, evT_and, evT_or, evT_not, evE_var, evE_non, evE_bl, evE_int, evE_str, evE_op, evE_and, evE_or, evE_not, evE_ite, evE_tup, evE_lst, fin0, fin1, fin2, fin3, evE_dsp, evE_call, evE_mut, evE_lc, evE_lc2, evE_dc, evL_nil, evL_pk, evL_lnt, evL_var, evL_non, evL_bl, evL_int, evL_str, evL_op, evL_tup, evL_lst, evL_call, evL_lc, evL_lc2, evL_dc, evL_ite, evL_and, evL_or, evL_not, bind_ok, ofE_ok, ofO_some, next_nx, next_ret, rdS_0, rdS_s, Option.isSome_some, if_true, Bool.false_eq_true, if_false, lnts, callO, back, endF, readAll, Option.map_some, Option.bind_some, List.set_cons_zero, List.set_cons_succ, asgT, Dt.truthy]⟩
  rw [q1]
  have ln : es.length < 2 := by
    have := congrArg List.length q2
    rw [List.length_map, List.length_map] at this
    rw [this]
    exact dd_two n
  have e : opR .lt false [PyData.int es.length, .int 2] = some (.bool true) := by
    show some (PyData.bool (decide ((es.length : Int) < 2))) = _
    rw [decide_eq_true (by omega)]
  have e2 : opR .len false [PyData.dict es] = some (.int es.length) := rfl
  simp only [evS_seq, evS_skip, evS_frz, evS_set, evS_exp, evS_ret, evS_ite, evS_par, evS_putS, evS_putA, evS_for, evT_op, evT_call, evT_var, evT_bl, evT_and, evT_or, evT_not, evE_var, evE_non, evE_bl, evE_int, evE_str, evE_op, evE_and, evE_or, evE_not, evE_ite, evE_tup, evE_lst, fin0, fin1, fin2, fin3, evE_dsp, evE_call, evE_mut, evE_lc, evE_lc2, evE_dc, evL_nil, evL_pk, evL_lnt, evL_var, evL_non, evL_bl, evL_int, evL_str, evL_op, evL_tup, evL_lst, evL_call, evL_lc, evL_lc2, evL_dc, evL_ite, evL_and, evL_or, evL_not, bind_ok, ofE_ok, ofO_some, next_nx, next_ret, rdS_0, rdS_s, Option.isSome_some, if_true, Bool.false_eq_true, if_false, lnts, callO, back, endF, readAll, Option.map_some, Option.bind_some, List.set_cons_zero, List.set_cons_succ, asgT, Dt.truthy, e, e2]
theorem f_turned_word (k n : Nat) (w : List Int) (h : W2 n w) : Dt.run P0 0 (k + 6) 12 [.int n, tp w] = .ret (tp w.reverse) [] := by
  rw [run_turned_word]
  unfold b_turned_word
  have e : opR .rev false [tp w] = some (tp w.reverse) := by
    show some (PyData.tuple (iL w).reverse) = _
    rw [← List.map_reverse]
  simp only [evS_seq, evS_skip, evS_frz, evS_set, evS_exp, evS_ret, evS_ite, evS_par, evS_putS, evS_putA, evS_for, evT_op, evT_call, evT_var, evT_bl, evT_and, evT_or, evT_not, evE_var, evE_non, evE_bl, evE_int, evE_str, evE_op, evE_and, evE_or, evE_not, evE_ite, evE_tup, evE_lst, fin0, fin1, fin2, fin3, evE_dsp, evE_call, evE_mut, evE_lc, evE_lc2, evE_dc, evL_nil, evL_pk, evL_lnt, evL_var, evL_non, evL_bl, evL_int, evL_str, evL_op, evL_tup, evL_lst, evL_call, evL_lc, evL_lc2, evL_dc, evL_ite, evL_and, evL_or, evL_not, bind_ok, ofE_ok, ofO_some, next_nx, next_ret, rdS_0, rdS_s, Option.isSome_some, if_true, Bool.false_eq_true, if_false, lnts, callO, back, endF, readAll, Option.map_some, Option.bind_some, List.set_cons_zero, List.set_cons_succ, asgT, Dt.truthy, f_need_word k n w h, e]
abbrev rot (k : Nat) (w : List Int) : List Int := w.drop k ++ w.take k
theorem rot_perm (k : Nat) (w : List Int) : (rot k w).Perm w := by
  have h : (w.drop k ++ w.take k).Perm (w.take k ++ w.drop k) := List.perm_append_comm
  rw [List.take_append_drop] at h
  exact h
theorem e_lo (w : List Int) (v : Nat) (fr : Bool) (hf : fr = false) : opR .sliceL fr [tp w, .int v] = some (tp (w.drop v)) := by
  subst hf
  show some (PyData.tuple (cutD (iL w) (some (v : Int)) none)) = _
  rw [cut_lo, ← List.map_drop]
theorem e_hi (w : List Int) (v : Nat) (fr : Bool) (hf : fr = false) : opR .sliceH fr [tp w, .int v] = some (tp (w.take v)) := by
  subst hf
  show some (PyData.tuple (cutD (iL w) none (some (v : Int)))) = _
  rw [cut_hi, ← List.map_take]
theorem e_cat (u v : List Int) (h : u.length + v.length ≤ 1000) : opR .add false [tp u, tp v] = some (tp (u ++ v)) := by
  unfold opR
  have e : opF .add [tp u, tp v] = some (tp (u ++ v)) := by
    show fAdd (PyData.tuple (iL u)) (PyData.tuple (iL v)) = _
    unfold fAdd
    simp only
    rw [if_pos (by rw [sl24, List.length_map, List.length_map]; omega)]
    show _ = some (PyData.tuple ((u ++ v).map PyData.int))
    rw [List.map_append]
  rw [e]
  simp only [Option.bind_some, Bool.false_eq_true, if_false]
theorem e_nil (w : List Int) : opR .eq false [tp w, PyData.tuple []] = some (.bool w.isEmpty) := by
  unfold opR
  have e : opF .eq [tp w, PyData.tuple []] = some (.bool w.isEmpty) := by
    show dBool (if okD (tp w) && okD (PyData.tuple []) then some (PyData.eqv (tp w) (.tuple [])) else none) = _
    rw [okD_tp w, show okD (PyData.tuple []) = true from okD_tp []]
    simp only [Bool.and_self, if_true]
    cases w with
    | nil => simp [PyData.eqv, PyData.eqvAll, dBool]
    | cons x w => simp [PyData.eqv, PyData.eqvAll, dBool]
  rw [e]
  simp only [Option.bind_some, Bool.false_eq_true, if_false]
theorem f_gone_round (k n : Nat) (w : List Int) (by_ : Nat) (h : W2 n w) : Dt.run P0 0 (k + 6) 13 [.int n, tp w, .int by_] = .ret (tp (rot (by_ % w.length) w)) [] := by
  have hs := h.short
  rw [run_gone_round]
  unfold b_gone_round
  simp only [evS_seq, evS_skip, evS_frz, evS_set, evS_exp, evS_ret, evS_ite, evS_par, evS_putS, evS_putA, evS_for, evT_op, evT_call, evT_var, evT_bl, evT_and, evT_or, evT_not, evE_var, evE_non, evE_bl, evE_int, evE_str, evE_op, evE_and, evE_or, evE_not, evE_ite, evE_tup, evE_lst, fin0, fin1, fin2, fin3, evE_dsp, evE_call, evE_mut, evE_lc, evE_lc2, evE_dc, evL_nil, evL_pk, evL_lnt, evL_var, evL_non, evL_bl, evL_int, evL_str, evL_op, evL_tup, evL_lst, evL_call, evL_lc, evL_lc2, evL_dc, evL_ite, evL_and, evL_or, evL_not, bind_ok, ofE_ok, ofO_some, next_nx, next_ret, rdS_0, rdS_s, Option.isSome_some, if_true, Bool.false_eq_true, if_false, lnts, callO, back, endF, readAll, Option.map_some, Option.bind_some, List.set_cons_zero, List.set_cons_succ, asgT, Dt.truthy, f_need_word k n w h, f_need_count (k + 2) (.str "by") by_ (by omega), f_is_even_in (k + 3) n w h, Bool.not_true, e_nil]
  cases w with
  | nil =>
    simp only [List.isEmpty_nil]
    simp only [evS_seq, evS_skip, evS_frz, evS_set, evS_exp, evS_ret, evS_ite, evS_par, evS_putS, evS_putA, evS_for, evT_op, evT_call, evT_var, evT_bl, evT_and, evT_or, evT_not, evE_var, evE_non, evE_bl, evE_int, evE_str, evE_op, evE_and, evE_or, evE_not, evE_ite, evE_tup, evE_lst, fin0, fin1, fin2, fin3, evE_dsp, evE_call, evE_mut, evE_lc, evE_lc2, evE_dc, evL_nil, evL_pk, evL_lnt, evL_var, evL_non, evL_bl, evL_int, evL_str, evL_op, evL_tup, evL_lst, evL_call, evL_lc, evL_lc2, evL_dc, evL_ite, evL_and, evL_or, evL_not, bind_ok, ofE_ok, ofO_some, next_nx, next_ret, rdS_0, rdS_s, Option.isSome_some, if_true, Bool.false_eq_true, if_false, lnts, callO, back, endF, readAll, Option.map_some, Option.bind_some, List.set_cons_zero, List.set_cons_succ, asgT, Dt.truthy]
    simp [rot]
  | cons x w =>
    have e1 : opR .len false [tp (x :: w)] = some (.int ((x :: w).length : Nat)) := by
      show some (PyData.int ((iL (x :: w)).length : Nat)) = _
      rw [List.length_map]
    have e2 : opR .mod false [PyData.int by_, PyData.int ((x :: w).length : Nat)] = some (.int ((by_ % (x :: w).length : Nat) : Int)) := by
      show (if ((x :: w).length : Int) ≠ 0 then some (PyData.int ((by_ : Int).fmod ((x :: w).length : Nat))) else none) = _
      rw [if_pos (by simp; omega), Int.fmod_eq_emod_of_nonneg _ (by omega)]
      rfl
    simp only [List.isEmpty_cons]
    simp only [evS_seq, evS_skip, evS_frz, evS_set, evS_exp, evS_ret, evS_ite, evS_par, evS_putS, evS_putA, evS_for, evT_op, evT_call, evT_var, evT_bl, evT_and, evT_or, evT_not, evE_var, evE_non, evE_bl, evE_int, evE_str, evE_op, evE_and, evE_or, evE_not, evE_ite, evE_tup, evE_lst, fin0, fin1, fin2, fin3, evE_dsp, evE_call, evE_mut, evE_lc, evE_lc2, evE_dc, evL_nil, evL_pk, evL_lnt, evL_var, evL_non, evL_bl, evL_int, evL_str, evL_op, evL_tup, evL_lst, evL_call, evL_lc, evL_lc2, evL_dc, evL_ite, evL_and, evL_or, evL_not, bind_ok, ofE_ok, ofO_some, next_nx, next_ret, rdS_0, rdS_s, Option.isSome_some, if_true, Bool.false_eq_true, if_false, lnts, callO, back, endF, readAll, Option.map_some, Option.bind_some, List.set_cons_zero, List.set_cons_succ, asgT, Dt.truthy, e1, e2, e_lo _ _ _ rfl, e_hi _ _ _ rfl]
    rw [e_cat _ _ (by simp; simp at hs; omega)]
    simp only [evS_seq, evS_skip, evS_frz, evS_set, evS_exp, evS_ret, evS_ite, evS_par, evS_putS, evS_putA, evS_for, evT_op, evT_call, evT_var, evT_bl, evT_and, evT_or, evT_not, evE_var, evE_non, evE_bl, evE_int, evE_str, evE_op, evE_and, evE_or, evE_not, evE_ite, evE_tup, evE_lst, fin0, fin1, fin2, fin3, evE_dsp, evE_call, evE_mut, evE_lc, evE_lc2, evE_dc, evL_nil, evL_pk, evL_lnt, evL_var, evL_non, evL_bl, evL_int, evL_str, evL_op, evL_tup, evL_lst, evL_call, evL_lc, evL_lc2, evL_dc, evL_ite, evL_and, evL_or, evL_not, bind_ok, ofE_ok, ofO_some, next_nx, next_ret, rdS_0, rdS_s, Option.isSome_some, if_true, Bool.false_eq_true, if_false, lnts, callO, back, endF, readAll, Option.map_some, Option.bind_some, List.set_cons_zero, List.set_cons_succ, asgT, Dt.truthy]
theorem e_eq2 : opR .eq false [PyData.int 2, .int 2] = some (.bool true) := by
  show (dBool (dEq (.int 2) (.int 2))).bind _ = _
  rw [dEq_int]
  rfl
theorem f_is_chord_in (k n : Nat) (w : List Int) (h : W2 n w) : Dt.run P0 0 (k + 5) 14 [.int n, tp w] = .ret (.bool true) [] := by
  have hs := h.sm
  rw [run_is_chord_in]
  unfold b_is_chord_in
  simp only [evS_seq, evS_skip, evS_frz, evS_set, evS_exp, evS_ret, evS_ite, evS_par, evS_putS, evS_putA, evS_for, evT_op, evT_call, evT_var, evT_bl, evT_and, evT_or, evT_not, evE_var, evE_non, evE_bl, evE_int, evE_str, evE_op, evE_and, evE_or, evE_not, evE_ite, evE_tup, evE_lst, fin0, fin1, fin2, fin3, evE_dsp, evE_call, evE_mut, evE_lc, evE_lc2, evE_dc, evL_nil, evL_pk, evL_lnt, evL_var, evL_non, evL_bl, evL_int, evL_str, evL_op, evL_tup, evL_lst, evL_call, evL_lc, evL_lc2, evL_dc, evL_ite, evL_and, evL_or, evL_not, bind_ok, ofE_ok, ofO_some, next_nx, next_ret, rdS_0, rdS_s, Option.isSome_some, if_true, Bool.false_eq_true, if_false, lnts, callO, back, endF, readAll, Option.map_some, Option.bind_some, List.set_cons_zero, List.set_cons_succ, asgT, Dt.truthy, f_is_word_in k n w h, f_counts_in (k + 3) n w h, items1, itemsF, Dt.listOf]
  rw [run_pure (fun _ => true) (fun _ => .bool true) (w0 := [some (.int n), some (tp w), none]) rfl (by rw [sl24]; simp; omega)]
  · have e : opR .all false [PyData.list (((iL (List.replicate n 2)).filter fun _ => true).map fun _ => PyData.bool true)] = some (.bool true) := by
      rw [List.filter_eq_self.mpr fun _ _ => rfl]
      show ((boolsOf ((iL (List.replicate n 2)).map fun _ => PyData.bool true)).map fun bs => PyData.bool (bs.all id)).bind _ = _
      rw [bools_map (fun _ => true)]
      simp
    simp only [evS_seq, evS_skip, evS_frz, evS_set, evS_exp, evS_ret, evS_ite, evS_par, evS_putS, evS_putA, evS_for, evT_op, evT_call, evT_var, evT_bl, evT_and, evT_or, evT_not, evE_var, evE_non, evE_bl, evE_int, evE_str, evE_op, evE_and, evE_or, evE_not, evE_ite, evE_tup, evE_lst, fin0, fin1, fin2, fin3, evE_dsp, evE_call, evE_mut, evE_lc, evE_lc2, evE_dc, evL_nil, evL_pk, evL_lnt, evL_var, evL_non, evL_bl, evL_int, evL_str, evL_op, evL_tup, evL_lst, evL_call, evL_lc, evL_lc2, evL_dc, evL_ite, evL_and, evL_or, evL_not, bind_ok, ofE_ok, ofO_some, next_nx, next_ret, rdS_0, rdS_s, Option.isSome_some, if_true, Bool.false_eq_true, if_false, lnts, callO, back, endF, readAll, Option.map_some, Option.bind_some, List.set_cons_zero, List.set_cons_succ, asgT, Dt.truthy, e]
  · intro d hd
    obtain ⟨x, hx, rfl⟩ := List.mem_map.mp hd
    have hx : x = 2 := (List.mem_replicate.mp hx).2
    subst hx
    exact ⟨[some (.int n), some (tp w), some (.int 2)], rfl, rfl, by simp only [evS_seq, evS_skip, evS_frz, evS_set, evS_exp, evS_ret, evS_ite, evS_par, evS_putS, evS_putA, evS_for, evT_op, evT_call, evT_var, evT_bl, evT_and, evT_or, evT_not, evE_var, evE_non, evE_bl, evE_int, evE_str, evE_op, evE_and, evE_or, evE_not, evE_ite, evE_tup, evE_lst, fin0, fin1, fin2, fin3, evE_dsp, evE_call, evE_mut, evE_lc, evE_lc2, evE_dc, evL_nil, evL_pk, evL_lnt, evL_var, evL_non, evL_bl, evL_int, evL_str, evL_op, evL_tup, evL_lst, evL_call, evL_lc, evL_lc2, evL_dc, evL_ite, evL_and, evL_or, evL_not, bind_ok, ofE_ok, ofO_some, next_nx, next_ret, rdS_0, rdS_s, Option.isSome_some, if_true, Bool.false_eq_true, if_false, lnts, callO, back, endF, readAll, Option.map_some, Option.bind_some, List.set_cons_zero, List.set_cons_succ, asgT, Dt.truthy], fun _ => by simp only [evS_seq, evS_skip, evS_frz, evS_set, evS_exp, evS_ret, evS_ite, evS_par, evS_putS, evS_putA, evS_for, evT_op, evT_call, evT_var, evT_bl, evT_and, evT_or, evT_not, evE_var, evE_non, evE_bl, evE_int, evE_str, evE_op, evE_and, evE_or, evE_not, evE_ite, evE_tup, evE_lst, fin0, fin1, fin2, fin3, evE_dsp, evE_call, evE_mut, evE_lc, evE_lc2, evE_dc, evL_nil, evL_pk, evL_lnt, evL_var, evL_non, evL_bl, evL_int, evL_str, evL_op, evL_tup, evL_lst, evL_call, evL_lc, evL_lc2, evL_dc, evL_ite, evL_and, evL_or, evL_not, bind_ok, ofE_ok, ofO_some, next_nx, next_ret, rdS_0, rdS_s, Option.isSome_some, if_true, Bool.false_eq_true, if_false, lnts, callO, back, endF, readAll, Option.map_some, Option.bind_some, List.set_cons_zero, List.set_cons_succ, asgT, Dt.truthy, e_eq2]⟩
theorem f_need_chords (k n : Nat) (w : List Int) (h : W2 n w) : Dt.run P0 0 (k + 6) 15 [.int n, tp w] = .ret .none [] := by
  rw [run_need_chords]
  unfold b_need_chords
  simp only [evS_seq, evS_skip, evS_frz, evS_set, evS_exp, evS_ret, evS_ite, evS_par, evS_putS, evS_putA, evS_for, evT_op, evT_call, evT_var, evT_bl, evT_and, evT_or, evT_not, evE_var, evE_non, evE_bl, evE_int, evE_str, evE_op, evE_and, evE_or, evE_not, evE_ite, evE_tup, evE_lst, fin0, fin1, fin2, fin3, evE_dsp, evE_call, evE_mut, evE_lc, evE_lc2, evE_dc, evL_nil, evL_pk, evL_lnt, evL_var, evL_non, evL_bl, evL_int, evL_str, evL_op, evL_tup, evL_lst, evL_call, evL_lc, evL_lc2, evL_dc, evL_ite, evL_and, evL_or, evL_not, bind_ok, ofE_ok, ofO_some, next_nx, next_ret, rdS_0, rdS_s, Option.isSome_some, if_true, Bool.false_eq_true, if_false, lnts, callO, back, endF, readAll, Option.map_some, Option.bind_some, List.set_cons_zero, List.set_cons_succ, asgT, Dt.truthy, f_need_count (k + 2) (.str "places") n (by omega), f_is_chord_in k n w h, Bool.not_true]
/-! ### by turns -/
abbrev fil (w : List Int) (a b : Int) : List Int := w.filter fun x => decide (x = a) || decide (x = b)
abbrev alt (r : List Int) : Bool := (r.zip (r.drop 1)).all fun p => !decide (p.1 = p.2)
theorem zip_tail (r : List Int) : ((iL r).zip ((iL r).drop 1)).map (fun p : D × D => PyData.tuple [p.1, p.2]) = (r.zip (r.drop 1)).map fun p => PyData.tuple [.int p.1, .int p.2] := by
  rw [← List.map_drop, List.zip_map, List.map_map]
  rfl
theorem e_lo1 (r : List Int) : opR .sliceL false [PyData.list (iL r), .int 1] = some (PyData.list ((iL r).drop 1)) := by
  show some (PyData.list (cutD (iL r) (some ((1 : Nat) : Int)) none)) = _
  rw [cut_lo]
theorem e_ne (a b : Int) : opR .ne false [PyData.int a, .int b] = some (.bool (!decide (a = b))) := by
  show (dBool ((dEq (.int a) (.int b)).map (!·))).bind _ = _
  rw [dEq_int]
  rfl
def neD : D → D
  | .tuple [.int a, .int b] => .bool (!decide (a = b))
  | _ => .none
theorem f_by_turns (k : Nat) (w : List Int) (a b : Int) (hl : w.length ≤ 1000) : Dt.run P0 0 (k + 2) 7 [tp w, .int a, .int b] = .ret (.bool (alt (fil w a b))) [] := by
  have hf : (fil w a b).length ≤ 1000 := Nat.le_trans (List.length_filter_le ..) hl
  have f1 : Dt.run P0 0 (k + 1) 6 [tp w, PyData.tuple [.int a, .int b]] = .ret (.list (iL (fil w a b))) [] := f_struck k w a b (by rw [sl24]; omega)
  rw [run_by_turns]
  unfold b_by_turns
  simp only [evS_seq, evS_skip, evS_frz, evS_set, evS_exp, evS_ret, evS_ite, evS_par, evS_putS, evS_putA, evS_for, evT_op, evT_call, evT_var, evT_bl, evT_and, evT_or, evT_not, evE_var, evE_non, evE_bl, evE_int, evE_str, evE_op, evE_and, evE_or, evE_not, evE_ite, evE_tup, evE_lst, fin0, fin1, fin2, fin3, evE_dsp, evE_call, evE_mut, evE_lc, evE_lc2, evE_dc, evL_nil, evL_pk, evL_lnt, evL_var, evL_non, evL_bl, evL_int, evL_str, evL_op, evL_tup, evL_lst, evL_call, evL_lc, evL_lc2, evL_dc, evL_ite, evL_and, evL_or, evL_not, bind_ok, ofE_ok, ofO_some, next_nx, next_ret, rdS_0, rdS_s, Option.isSome_some, if_true, Bool.false_eq_true, if_false, lnts, callO, back, endF, readAll, Option.map_some, Option.bind_some, List.set_cons_zero, List.set_cons_succ, asgT, Dt.truthy, f1, items1, itemsF, itZp, e_lo1, zip_tail]
  rw [run_pure (fun _ => true) neD (w0 := [some (tp w), some (.int a), some (.int b), some (.list (iL (fil w a b))), none, none]) rfl
    (by rw [sl24, List.length_map, List.length_zip]; omega)]
  · have e : opR .all false [PyData.list ((((fil w a b).zip ((fil w a b).drop 1)).map fun p => PyData.tuple [.int p.1, .int p.2]).filter (fun _ => true) |>.map neD)] = some (.bool (alt (fil w a b))) := by
      rw [List.filter_eq_self.mpr fun _ _ => rfl, List.map_map]
      show ((boolsOf (((fil w a b).zip ((fil w a b).drop 1)).map fun p => PyData.bool (!decide (p.1 = p.2)))).map fun bs => PyData.bool (bs.all id)).bind _ = _
      rw [bools_map]
      simp [List.all_map, alt, Function.comp_def]
    simp only [evS_seq, evS_skip, evS_frz, evS_set, evS_exp, evS_ret, evS_ite, evS_par, evS_putS, evS_putA, evS_for, evT_op, evT_call, evT_var, evT_bl, evT_and, evT_or, evT_not, evE_var, evE_non, evE_bl, evE_int, evE_str, evE_op, evE_and, evE_or, evE_not, evE_ite, evE_tup, evE_lst, fin0, fin1, fin2, fin3, evE_dsp, evE_call, evE_mut, evE_lc, evE_lc2, evE_dc, evL_nil, evL_pk, evL_lnt, evL_var, evL_non, evL_bl, evL_int, evL_str, evL_op, evL_tup, evL_lst, evL_call, evL_lc, evL_lc2, evL_dc, evL_ite, evL_and, evL_or, evL_not, bind_ok, ofE_ok, ofO_some, next_nx, next_ret, rdS_0, rdS_s, Option.isSome_some, if_true, Bool.false_eq_true, if_false, lnts, callO, back, endF, readAll, Option.map_some, Option.bind_some, List.set_cons_zero, List.set_cons_succ, asgT, Dt.truthy, e]
  · intro d hd
    obtain ⟨p, hp, rfl⟩ := List.mem_map.mp hd
    exact ⟨[some (tp w), some (.int a), some (.int b), some (.list (iL (fil w a b))), some (.int p.1), some (.int p.2)], rfl, rfl, by simp only [evS_seq, evS_skip, evS_frz, evS_set, evS_exp, evS_ret, evS_ite, evS_par, evS_putS, evS_putA, evS_for, evT_op, evT_call, evT_var, evT_bl, evT_and, evT_or, evT_not, evE_var, evE_non, evE_bl, evE_int, evE_str, evE_op, evE_and, evE_or, evE_not, evE_ite, evE_tup, evE_lst, fin0, fin1, fin2, fin3, evE_dsp, evE_call, evE_mut, evE_lc, evE_lc2, evE_dc, evL_nil, evL_pk, evL_lnt, evL_var, evL_non, evL_bl, evL_int, evL_str, evL_op, evL_tup, evL_lst, evL_call, evL_lc, evL_lc2, evL_dc, evL_ite, evL_and, evL_or, evL_not, bind_ok, ofE_ok, ofO_some, next_nx, next_ret, rdS_0, rdS_s, Option.isSome_some, if_true, Bool.false_eq_true, if_false, lnts, callO, back, endF, readAll, Option.map_some, Option.bind_some, List.set_cons_zero, List.set_cons_succ, asgT, Dt.truthy], fun _ => by simp only [evS_seq, evS_skip, evS_frz, evS_set, evS_exp, evS_ret, evS_ite, evS_par, evS_putS, evS_putA, evS_for, evT_op, evT_call, evT_var, evT_bl, evT_and, evT_or, evT_not, evE_var, evE_non, evE_bl, evE_int, evE_str, evE_op, evE_and, evE_or, evE_not, evE_ite, evE_tup, evE_lst, fin0, fin1, fin2, fin3, evE_dsp, evE_call, evE_mut, evE_lc, evE_lc2, evE_dc, evL_nil, evL_pk, evL_lnt, evL_var, evL_non, evL_bl, evL_int, evL_str, evL_op, evL_tup, evL_lst, evL_call, evL_lc, evL_lc2, evL_dc, evL_ite, evL_and, evL_or, evL_not, bind_ok, ofE_ok, ofO_some, next_nx, next_ret, rdS_0, rdS_s, Option.isSome_some, if_true, Bool.false_eq_true, if_false, lnts, callO, back, endF, readAll, Option.map_some, Option.bind_some, List.set_cons_zero, List.set_cons_succ, asgT, Dt.truthy, e_ne, neD]⟩
end K36
end
section
set_option Elab.async false
set_option linter.all false
set_option maxRecDepth 100000
set_option maxHeartbeats 4000000
namespace K36
open PySem Dt
/-! ### webs told -/
def pB (w : List Int) (a : Int) : D → Bool
  | .int b => alt (fil w a b)
  | _ => false
def pF (a : Int) (d : D) : D := .tuple [.int a, d]
def PR (n : Nat) (w : List Int) (a : Int) : List D := ((rangeD (a + 1) n).filter (pB w a)).map (pF a)
def asI : D → Int
  | .int i => i
  | _ => 0
abbrev pairs (n : Nat) (w : List Int) : List D := (rangeD 0 n).flatMap fun d => PR n w (asI d)
theorem rg_len (a b : Int) : (rangeD a b).length = (b - a).toNat := by unfold rangeD; rw [List.length_map, List.length_range]
theorem rg_mem {a b : Int} {d : D} (h : d ∈ rangeD a b) : ∃ i : Int, d = .int i ∧ a ≤ i ∧ i < b := by
  unfold rangeD at h
  obtain ⟨j, hj, rfl⟩ := List.mem_map.mp h
  have := List.mem_range.mp hj
  exact ⟨a + j, rfl, by omega, by omega⟩
theorem PR_len (n : Nat) (w : List Int) (a : Int) (h : 0 ≤ a) : (PR n w a).length ≤ n := by
  unfold PR
  rw [List.length_map]
  refine Nat.le_trans (List.length_filter_le ..) ?_
  rw [rg_len]
  omega
theorem flat_len {α : Type} {f : D → List α} {m : Nat} : ∀ {l : List D}, (∀ d ∈ l, (f d).length ≤ m) → (l.flatMap f).length ≤ l.length * m
  | [], _ => by simp
  | d :: l, h => by
    rw [List.flatMap_cons, List.length_append, List.length_cons, Nat.add_mul]
    have h1 := h d (List.mem_cons_self ..)
    have h2 := flat_len (l := l) fun d m => h d (List.mem_cons_of_mem _ m)
    omega
theorem pairs_len (n : Nat) (w : List Int) (hn : n ≤ 12) : (pairs n w).length ≤ 144 := by
  have h := flat_len (l := rangeD 0 n) (f := fun d => PR n w (asI d)) (m := n) fun d hd => by
    obtain ⟨i, rfl, h1, _⟩ := rg_mem hd
    exact PR_len n w i h1
  rw [rg_len] at h
  have e : ((n : Int) - 0).toNat = n := by omega
  rw [e] at h
  refine Nat.le_trans h ?_
  exact Nat.le_trans (Nat.mul_le_mul hn hn) (by decide)
theorem inR_of {i : Int} (h1 : -1000 ≤ i) (h2 : i ≤ 1000) : inR i = true := by
  unfold inR
  rw [decide_eq_true (by omega), decide_eq_true (by omega)]
  rfl
theorem it_r1 (n : Nat) (h : n ≤ 1000) : itR1 (.int n) = some (rangeD 0 n) := by
  show (if inR (n : Int) then some (rangeD 0 n) else none) = _
  rw [if_pos (inR_of (by omega) (by omega))]
theorem it_r2 (a : Int) (n : Nat) (h : n ≤ 1000) (h1 : 0 ≤ a) (h2 : a ≤ 1000) : itR2 (.int a) (.int n) = some (rangeD a n) := by
  show (if inR a && inR (n : Int) then some (rangeD a n) else none) = _
  rw [inR_of (by omega) (by omega), inR_of (by omega) (by omega)]
  rfl
theorem e_add (a b : Int) : opR .add false [PyData.int a, .int b] = some (.int (a + b)) := rfl
theorem e_tup (ds : List D) : opR .tuple false [PyData.list ds] = some (.tuple ds) := rfl
/-- the inner comprehension of a row -/
theorem inner {V : Ev} {own : List Nat} {tg : Tg} {c : Sl → Out Bool} {e : Sl → Out D} {w0 : Sl} (n : Nat) (w : List Int) (a : Int) {acc : List D} {σ : Sl} (h0 : 0 ≤ a) (hn : n ≤ 12) (hw : wipeD σ own = w0) (hl : acc.length ≤ 1000)
    (k : ∀ b : Int, ∃ σ1, asgT tg (.int b) w0 = some σ1 ∧ wipeD σ1 own = w0 ∧ c σ1 = .ok (alt (fil w a b)) σ1 ∧ e σ1 = .ok (.tuple [.int a, .int b]) σ1) :
    ∃ σ2, loopG (turnG own tg c (app1 e)) (rangeD (a + 1) n) acc σ = .ok (acc ++ PR n w a) σ2 ∧ wipeD σ2 own = w0 :=
  loop_pure hw (by rw [sl24, rg_len]; omega) fun d hd => by
    obtain ⟨b, rfl, _⟩ := rg_mem hd
    obtain ⟨σ1, h1, h2, h3, h4⟩ := k b
    exact ⟨σ1, h1, h2, h3, fun _ => h4⟩
theorem f_told_in (k n : Nat) (w : List Int) (hw : w.length ≤ 1000) (hn : n ≤ 12) : Dt.run P0 0 (k + 3) 8 [.int n, tp w] = .ret (.tuple [.int n, .tuple (pairs n w)]) [] := by
  have hp := pairs_len n w hn
  rw [run_told_in]
  unfold b_told_in
  simp only [evS_seq, evS_skip, evS_frz, evS_set, evS_exp, evS_ret, evS_ite, evS_par, evS_putS, evS_putA, evS_for, evT_op, evT_call, evT_var, evT_bl, evT_and, evT_or, evT_not, evE_var, evE_non, evE_bl, evE_int, evE_str, evE_op, evE_and, evE_or, evE_not, evE_ite, evE_tup, evE_lst, fin0, fin1, fin2, fin3, evE_dsp, evE_call, evE_mut, evE_lc, evE_lc2, evE_dc, evL_nil, evL_pk, evL_lnt, evL_var, evL_non, evL_bl, evL_int, evL_str, evL_op, evL_tup, evL_lst, evL_call, evL_lc, evL_lc2, evL_dc, evL_ite, evL_and, evL_or, evL_not, bind_ok, ofE_ok, ofO_some, next_nx, next_ret, rdS_0, rdS_s, Option.isSome_some, if_true, Bool.false_eq_true, if_false, lnts, callO, back, endF, readAll, Option.map_some, Option.bind_some, List.set_cons_zero, List.set_cons_succ, asgT, Dt.truthy, items1, itemsF, it_r1 n (by omega)]
  obtain ⟨acc, e1, _, e2⟩ := run_inv (dat := .list) (own := [2, 3]) (tg := .v 2) (c := evT ⟨Dt.run P0 0 (k + 2), 0, P0.sub⟩ (.bl true)) (w0 := [some (.int n), some (tp w), none, none]) (σ := [some (.int n), some (tp w), none, none]) (items := rangeD 0 n) (acc := [])
    (e := inStep ⟨Dt.run P0 0 (k + 2), 0, P0.sub⟩ [3] (.v 3) .range2 (.cons (.op .add false (.cons (.pk 2) (.cons (.int 1) .nil))) (.cons (.var 0) .nil)) (.call 7 (.cons (.var 1) (.cons (.var 2) (.cons (.var 3) .nil)))) (.tup (.cons (.var 2) (.cons (.var 3) .nil))))
    (fun rest acc => (∀ d ∈ rest, d ∈ rangeD 0 n) ∧ acc ++ rest.flatMap (fun d => PR n w (asI d)) = pairs n w) rfl ⟨fun d h => h, rfl⟩ (by
      rintro d rest acc ⟨sub, tot⟩
      obtain ⟨a, rfl, h1, h2⟩ := rg_mem (sub d (List.mem_cons_self ..))
      rw [List.flatMap_cons, ← List.append_assoc] at tot
      have la : acc.length ≤ 1000 := by
        have := congrArg List.length tot
        rw [List.length_append, List.length_append] at this
        omega
      refine ⟨[some (.int n), some (tp w), some (.int a), none], true, [some (.int n), some (tp w), some (.int a), none], rfl, by simp only [evS_seq, evS_skip, evS_frz, evS_set, evS_exp, evS_ret, evS_ite, evS_par, evS_putS, evS_putA, evS_for, evT_op, evT_call, evT_var, evT_bl, evT_and, evT_or, evT_not, evE_var, evE_non, evE_bl, evE_int, evE_str, evE_op, evE_and, evE_or, evE_not, evE_ite, evE_tup, evE_lst, fin0, fin1, fin2, fin3, evE_dsp, evE_call, evE_mut, evE_lc, evE_lc2, evE_dc, evL_nil, evL_pk, evL_lnt, evL_var, evL_non, evL_bl, evL_int, evL_str, evL_op, evL_tup, evL_lst, evL_call, evL_lc, evL_lc2, evL_dc, evL_ite, evL_and, evL_or, evL_not, bind_ok, ofE_ok, ofO_some, next_nx, next_ret, rdS_0, rdS_s, Option.isSome_some, if_true, Bool.false_eq_true, if_false, lnts, callO, back, endF, readAll, Option.map_some, Option.bind_some, List.set_cons_zero, List.set_cons_succ, asgT, Dt.truthy], fun z => (nomatch z), fun _ => ⟨acc ++ PR n w a, [some (.int n), some (tp w), some (.int a), none], ?_, rfl, fun d h => sub d (List.mem_cons_of_mem _ h), tot⟩⟩
      obtain ⟨σ2, q1, q2⟩ := inner (V := ⟨Dt.run P0 0 (k + 2), 0, P0.sub⟩) (own := [3]) (tg := .v 3) (c := evT ⟨Dt.run P0 0 (k + 2), 0, P0.sub⟩ (.call 7 (.cons (.var 1) (.cons (.var 2) (.cons (.var 3) .nil))))) (e := evE ⟨Dt.run P0 0 (k + 2), 0, P0.sub⟩ (.tup (.cons (.var 2) (.cons (.var 3) .nil)))) (w0 := [some (.int n), some (tp w), some (.int a), none]) (σ := [some (.int n), some (tp w), some (.int a), none]) n w a h1 hn rfl la
        fun b => ⟨[some (.int n), some (tp w), some (.int a), some (.int b)], rfl, rfl, by simp only [evS_seq, evS_skip, evS_frz, evS_set, evS_exp, evS_ret, evS_ite, evS_par, evS_putS, evS_putA, evS_for, evT_op, evT_call, evT_var, evT_bl, evT_and, evT_or, evT_not, evE_var, evE_non, evE_bl, evE_int, evE_str, evE_op, evE_and, evE_or, evE_not, evE_ite, evE_tup, evE_lst, fin0, fin1, fin2, fin3, evE_dsp, evE_call, evE_mut, evE_lc, evE_lc2, evE_dc, evL_nil, evL_pk, evL_lnt, evL_var, evL_non, evL_bl, evL_int, evL_str, evL_op, evL_tup, evL_lst, evL_call, evL_lc, evL_lc2, evL_dc, evL_ite, evL_and, evL_or, evL_not, bind_ok, ofE_ok, ofO_some, next_nx, next_ret, rdS_0, rdS_s, Option.isSome_some, if_true, Bool.false_eq_true, if_false, lnts, callO, back, endF, readAll, Option.map_some, Option.bind_some, List.set_cons_zero, List.set_cons_succ, asgT, Dt.truthy, f_by_turns k w a b hw], by simp only [evS_seq, evS_skip, evS_frz, evS_set, evS_exp, evS_ret, evS_ite, evS_par, evS_putS, evS_putA, evS_for, evT_op, evT_call, evT_var, evT_bl, evT_and, evT_or, evT_not, evE_var, evE_non, evE_bl, evE_int, evE_str, evE_op, evE_and, evE_or, evE_not, evE_ite, evE_tup, evE_lst, fin0, fin1, fin2, fin3, evE_dsp, evE_call, evE_mut, evE_lc, evE_lc2, evE_dc, evL_nil, evL_pk, evL_lnt, evL_var, evL_non, evL_bl, evL_int, evL_str, evL_op, evL_tup, evL_lst, evL_call, evL_lc, evL_lc2, evL_dc, evL_ite, evL_and, evL_or, evL_not, bind_ok, ofE_ok, ofO_some, next_nx, next_ret, rdS_0, rdS_s, Option.isSome_some, if_true, Bool.false_eq_true, if_false, lnts, callO, back, endF, readAll, Option.map_some, Option.bind_some, List.set_cons_zero, List.set_cons_succ, asgT, Dt.truthy]⟩
      unfold inStep
      simp only [evS_seq, evS_skip, evS_frz, evS_set, evS_exp, evS_ret, evS_ite, evS_par, evS_putS, evS_putA, evS_for, evT_op, evT_call, evT_var, evT_bl, evT_and, evT_or, evT_not, evE_var, evE_non, evE_bl, evE_int, evE_str, evE_op, evE_and, evE_or, evE_not, evE_ite, evE_tup, evE_lst, fin0, fin1, fin2, fin3, evE_dsp, evE_call, evE_mut, evE_lc, evE_lc2, evE_dc, evL_nil, evL_pk, evL_lnt, evL_var, evL_non, evL_bl, evL_int, evL_str, evL_op, evL_tup, evL_lst, evL_call, evL_lc, evL_lc2, evL_dc, evL_ite, evL_and, evL_or, evL_not, bind_ok, ofE_ok, ofO_some, next_nx, next_ret, rdS_0, rdS_s, Option.isSome_some, if_true, Bool.false_eq_true, if_false, lnts, callO, back, endF, readAll, Option.map_some, Option.bind_some, List.set_cons_zero, List.set_cons_succ, asgT, Dt.truthy, e_add, items1, itemsF, it_r2 (a + 1) n (by omega) (by omega) (by omega)]
      rw [q1]
      simp only [evS_seq, evS_skip, evS_frz, evS_set, evS_exp, evS_ret, evS_ite, evS_par, evS_putS, evS_putA, evS_for, evT_op, evT_call, evT_var, evT_bl, evT_and, evT_or, evT_not, evE_var, evE_non, evE_bl, evE_int, evE_str, evE_op, evE_and, evE_or, evE_not, evE_ite, evE_tup, evE_lst, fin0, fin1, fin2, fin3, evE_dsp, evE_call, evE_mut, evE_lc, evE_lc2, evE_dc, evL_nil, evL_pk, evL_lnt, evL_var, evL_non, evL_bl, evL_int, evL_str, evL_op, evL_tup, evL_lst, evL_call, evL_lc, evL_lc2, evL_dc, evL_ite, evL_and, evL_or, evL_not, bind_ok, ofE_ok, ofO_some, next_nx, next_ret, rdS_0, rdS_s, Option.isSome_some, if_true, Bool.false_eq_true, if_false, lnts, callO, back, endF, readAll, Option.map_some, Option.bind_some, List.set_cons_zero, List.set_cons_succ, asgT, Dt.truthy, q2])
  rw [e1]
  rw [List.flatMap_nil, List.append_nil] at e2
  subst e2
  simp only [evS_seq, evS_skip, evS_frz, evS_set, evS_exp, evS_ret, evS_ite, evS_par, evS_putS, evS_putA, evS_for, evT_op, evT_call, evT_var, evT_bl, evT_and, evT_or, evT_not, evE_var, evE_non, evE_bl, evE_int, evE_str, evE_op, evE_and, evE_or, evE_not, evE_ite, evE_tup, evE_lst, fin0, fin1, fin2, fin3, evE_dsp, evE_call, evE_mut, evE_lc, evE_lc2, evE_dc, evL_nil, evL_pk, evL_lnt, evL_var, evL_non, evL_bl, evL_int, evL_str, evL_op, evL_tup, evL_lst, evL_call, evL_lc, evL_lc2, evL_dc, evL_ite, evL_and, evL_or, evL_not, bind_ok, ofE_ok, ofO_some, next_nx, next_ret, rdS_0, rdS_s, Option.isSome_some, if_true, Bool.false_eq_true, if_false, lnts, callO, back, endF, readAll, Option.map_some, Option.bind_some, List.set_cons_zero, List.set_cons_succ, asgT, Dt.truthy, e_tup]
theorem f_web_told (k n : Nat) (w : List Int) (h : W2 n w) : Dt.run P0 0 (k + 6) 9 [.int n, tp w] = .ret (.tuple [.int n, .tuple (pairs n w)]) [] := by
  rw [run_web_told]
  unfold b_web_told
  simp only [evS_seq, evS_skip, evS_frz, evS_set, evS_exp, evS_ret, evS_ite, evS_par, evS_putS, evS_putA, evS_for, evT_op, evT_call, evT_var, evT_bl, evT_and, evT_or, evT_not, evE_var, evE_non, evE_bl, evE_int, evE_str, evE_op, evE_and, evE_or, evE_not, evE_ite, evE_tup, evE_lst, fin0, fin1, fin2, fin3, evE_dsp, evE_call, evE_mut, evE_lc, evE_lc2, evE_dc, evL_nil, evL_pk, evL_lnt, evL_var, evL_non, evL_bl, evL_int, evL_str, evL_op, evL_tup, evL_lst, evL_call, evL_lc, evL_lc2, evL_dc, evL_ite, evL_and, evL_or, evL_not, bind_ok, ofE_ok, ofO_some, next_nx, next_ret, rdS_0, rdS_s, Option.isSome_some, if_true, Bool.false_eq_true, if_false, lnts, callO, back, endF, readAll, Option.map_some, Option.bind_some, List.set_cons_zero, List.set_cons_succ, asgT, Dt.truthy, f_need_word k n w h, f_told_in (k + 2) n w (by have := h.short; omega) h.sm]
end K36
end
section
set_option Elab.async false
set_option linter.all false
set_option maxRecDepth 100000
set_option maxHeartbeats 4000000
namespace K36
open PySem Dt
/-! ### the pen -/
abbrev P (cells : List Int) (at_ dg ct fd : Int) : D := .dict [(.str "cells", .list (iL cells)), (.str "at", .int at_), (.str "digits", .int dg), (.str "count", .int ct), (.str "fold", .int fd)]
section
variable {cells : List Int} {at_ dg ct fd : Int}
theorem g_cells : opR .idx false [P cells at_ dg ct fd, .str "cells"] = some (.list (iL cells)) := by kernel_rfl
theorem g_at : opR .idx false [P cells at_ dg ct fd, .str "at"] = some (.int at_) := by kernel_rfl
theorem g_digits : opR .idx false [P cells at_ dg ct fd, .str "digits"] = some (.int dg) := by kernel_rfl
theorem g_count : opR .idx false [P cells at_ dg ct fd, .str "count"] = some (.int ct) := by kernel_rfl
theorem g_fold : opR .idx false [P cells at_ dg ct fd, .str "fold"] = some (.int fd) := by kernel_rfl
theorem put_any {es : List (D × D)} {x : Str} {v : D} (h : es.length ≤ 1000) (k : kindOk es (.k (.inr x)) = true) : mopF .set (.dict es) [.str x, v] = some (.none, .dict (dPut es (.k (.inr x)) (.str x) v)) := by
  unfold mopF
  show (some (Sum.inr x)).bind (fun y => if es.length < sizeLine ∧ kindOk es (.k y) = true then some (PyData.none, PyData.dict (dPut es (.k y) (.str x) v)) else none) = _
  rw [Option.bind_some, if_pos ⟨by rw [sl24]; omega, k⟩]
theorem s_at {v : Int} : mopF .set (P cells at_ dg ct fd) [.str "at", .int v] = some (.none, P cells v dg ct fd) := by
  rw [put_any (by simp) (by kernel_rfl)]
  kernel_rfl
theorem s_digits {v : Int} : mopF .set (P cells at_ dg ct fd) [.str "digits", .int v] = some (.none, P cells at_ v ct fd) := by
  rw [put_any (by simp) (by kernel_rfl)]
  kernel_rfl
theorem s_count {v : Int} : mopF .set (P cells at_ dg ct fd) [.str "count", .int v] = some (.none, P cells at_ dg v fd) := by
  rw [put_any (by simp) (by kernel_rfl)]
  kernel_rfl
theorem s_fold {v : Int} : mopF .set (P cells at_ dg ct fd) [.str "fold", .int v] = some (.none, P cells at_ dg ct v) := by
  rw [put_any (by simp) (by kernel_rfl)]
  kernel_rfl
end
theorem e_sub (a b : Int) : opR .sub false [PyData.int a, .int b] = some (.int (a - b)) := rfl
theorem e_int (a : Int) : opR .int false [PyData.int a] = some (.int a) := rfl
theorem e_gt (a b : Int) : opR .gt false [PyData.int a, .int b] = some (.bool (decide (b < a))) := rfl
theorem e_lt (a b : Int) : opR .lt false [PyData.int a, .int b] = some (.bool (decide (a < b))) := rfl
theorem e_ge (a b : Int) : opR .ge false [PyData.int a, .int b] = some (.bool (decide (b ≤ a))) := rfl
theorem e_eqi (a b : Int) : opR .eq false [PyData.int a, .int b] = some (.bool (decide (a = b))) := by
  show (dBool (dEq (.int a) (.int b))).bind _ = _
  rw [dEq_int]
  rfl
theorem e_lenL (l : List Int) : opR .len false [PyData.list (iL l)] = some (.int (l.length : Nat)) := by
  show some (PyData.int ((iL l).length : Nat)) = _
  rw [List.length_map]
theorem e_mul (a b : Int) (h : -(2 ^ 64) < b ∧ b < 2 ^ 64) : opR .mul false [PyData.int a, .int b] = some (.int (a * b)) := by
  unfold opR
  have e : opF .mul [PyData.int a, .int b] = some (.int (a * b)) := by
    show (if (-(2 ^ 64) < a ∧ a < 2 ^ 64) ∨ (-(2 ^ 64) < b ∧ b < 2 ^ 64) then some (PyData.int (a * b)) else none) = _
    rw [if_pos (.inr h)]
  rw [e]
  simp only [Option.bind_some, Bool.false_eq_true, if_false]
theorem e_mod (a b : Int) (h : 0 < b) : opR .mod false [PyData.int a, .int b] = some (.int (a % b)) := by
  unfold opR
  have e : opF .mod [PyData.int a, .int b] = some (.int (a % b)) := by
    show (if b ≠ 0 then some (PyData.int (a.fmod b)) else none) = _
    rw [if_pos (by omega), Int.fmod_eq_emod_of_nonneg _ (by omega)]
  rw [e]
  simp only [Option.bind_some, Bool.false_eq_true, if_false]
theorem e_div (a b : Int) (h : 0 < b) (h2 : b < 1073741824) : opR .fdiv false [PyData.int a, .int b] = some (.int (a / b)) := by
  unfold opR
  have e : opF .fdiv [PyData.int a, .int b] = some (.int (a / b)) := by
    show (if b ≠ 0 ∧ b.natAbs < 1073741824 then some (PyData.int (a.fdiv b)) else none) = _
    rw [if_pos ⟨by omega, by omega⟩, Int.fdiv_eq_ediv_of_nonneg _ (by omega)]
  rw [e]
  simp only [Option.bind_some, Bool.false_eq_true, if_false]
theorem e_pow (a : Int) (b : Nat) (h : a.natAbs < 2 ^ 64) (hb : b ≤ 1000) : opR .pow false [PyData.int a, .int b] = some (.int (a ^ b)) := by
  unfold opR
  have e : opF .pow [PyData.int a, .int b] = some (.int (a ^ b)) := by
    show (if 0 ≤ (b : Int) ∧ (b : Int) ≤ 1000000 ∧ a.natAbs < 2 ^ 64 then some (PyData.int (a ^ (b : Int).toNat)) else none) = _
    rw [if_pos ⟨by omega, by omega, h⟩, Int.toNat_natCast]
  rw [e]
  simp only [Option.bind_some, Bool.false_eq_true, if_false]
theorem e_ixL (l : List Int) (j : Nat) (h : j < l.length) : opR .idx false [PyData.list (iL l), .int j] = some (.int l[j]) := by
  show (atD (iL l) (j : Int)).bind _ = _
  have e : atD (iL l) (j : Int) = some (.int l[j]) := by
    unfold atD ixD
    rw [if_pos (by omega), if_pos (by simp; omega), Option.bind_some, Int.toNat_natCast, List.getElem?_map, List.getElem?_eq_getElem h]
    rfl
  rw [e]
  rfl
structure Gp (c : Int) (p : D) : Prop where
  ex : ∃ (cells : List Int) (j : Nat) (dg ct fd : Int), p = P cells j dg ct fd ∧ j ≤ cells.length ∧ 0 ≤ dg ∧ 0 ≤ ct ∧ ct ≤ c ∧ 0 ≤ fd ∧ fd < 2147483549
def bT : S := (.seq (.ite (.op .gt false (.cons (.op .idx false (.cons (.pk 0) (.cons (.str "digits") .nil))) (.cons (.int 0) .nil)))
        (.seq (.set 3 (.op .mod false (.cons (.op .int false (.cons (.op .idx false (.cons (.pk 0) (.cons (.str "digits") .nil))) .nil)) (.cons (.pk 1) .nil))))
        (.seq (.put .set 0 (.str "digits") (.op .fdiv false (.cons (.op .idx false (.cons (.pk 0) (.cons (.str "digits") .nil))) (.cons (.pk 1) .nil))))
        (.seq (.ret (.var 3)) .skip))) .skip)
        (.seq (.set 4 (.op .add false (.cons (.op .add false (.cons (.op .idx false (.cons (.pk 0) (.cons (.str "fold") .nil))) (.cons (.op .mul false (.cons (.op .idx false (.cons (.pk 0) (.cons (.str "count") .nil))) (.cons (.int 9001) .nil))) .nil))) (.cons (.int 67) .nil))))
        (.seq (.ret (.op .mod false (.cons (.op .fdiv false (.cons (.op .int false (.cons (.op .mod false (.cons (.op .pow false (.cons (.pk 4) (.cons (.int 17) .nil))) (.cons (.int 2305843009213693951) .nil))) .nil)) (.cons (.int 512) .nil))) (.cons (.pk 1) .nil)))) .skip)))
theorem f_tail {V : Ev} {c many : Int} {cells : List Int} {j : Nat} {dg ct fd : Int} {o2 o3 o4 : Option D} (hc : c ≤ 1000000) (h1 : 0 < many) (h2 : many ≤ 1000) (b1 : 0 ≤ dg) (b2 : 0 ≤ ct) (b3 : ct ≤ c) (b4 : 0 ≤ fd) (b5 : fd < 2147483549) (b6 : j ≤ cells.length) : ∃ (r : Int) (p' : D), endF [0] (evS V bT [some (P cells j dg ct fd), some (.int many), o2, o3, o4]) = .ret (.int r) [p'] ∧ 0 ≤ r ∧ r < many ∧ Gp c p' := by
  unfold bT
  by_cases hd : 0 < dg
  · refine ⟨dg % many, P cells j (dg / many) ct fd, ?_, Int.emod_nonneg _ (by omega), Int.emod_lt_of_pos _ h1, ⟨cells, j, dg / many, ct, fd, rfl, b6, Int.ediv_nonneg b1 (by omega), b2, b3, b4, b5⟩⟩
    simp only [evS_seq, evS_skip, evS_frz, evS_set, evS_exp, evS_ret, evS_ite, evS_par, evS_putS, evS_putA, evS_for, evT_op, evT_call, evT_var, evT_bl, evT_and, evT_or, evT_not, evE_var, evE_non, evE_bl, evE_int, evE_str, evE_op, evE_and, evE_or, evE_not, evE_ite, evE_tup, evE_lst, fin0, fin1, fin2, fin3, evE_dsp, evE_call, evE_mut, evE_lc, evE_lc2, evE_dc, evL_nil, evL_pk, evL_lnt, evL_var, evL_non, evL_bl, evL_int, evL_str, evL_op, evL_tup, evL_lst, evL_call, evL_lc, evL_lc2, evL_dc, evL_ite, evL_and, evL_or, evL_not, bind_ok, ofE_ok, ofO_some, next_nx, next_ret, rdS_0, rdS_s, Option.isSome_some, if_true, Bool.false_eq_true, if_false, lnts, callO, back, endF, readAll, Option.map_some, Option.bind_some, List.set_cons_zero, List.set_cons_succ, asgT, Dt.truthy, g_digits, e_gt, hd, decide_true, e_int, e_mod _ _ h1, e_div _ _ h1 (by omega), mutO, s_digits]
  · have hd' : decide (0 < dg) = false := decide_eq_false hd
    have hb : (fd + ct * 9001 + 67).natAbs < 2 ^ 64 := by omega
    refine ⟨(fd + ct * 9001 + 67) ^ 17 % 2305843009213693951 / 512 % many, P cells j dg ct fd, ?_, Int.emod_nonneg _ (by omega), Int.emod_lt_of_pos _ h1, ⟨cells, j, dg, ct, fd, rfl, b6, b1, b2, b3, b4, b5⟩⟩
    have ep : opR .pow false [PyData.int (fd + ct * 9001 + 67), .int 17] = some (.int ((fd + ct * 9001 + 67) ^ 17)) := e_pow _ 17 hb (by decide)
    simp only [evS_seq, evS_skip, evS_frz, evS_set, evS_exp, evS_ret, evS_ite, evS_par, evS_putS, evS_putA, evS_for, evT_op, evT_call, evT_var, evT_bl, evT_and, evT_or, evT_not, evE_var, evE_non, evE_bl, evE_int, evE_str, evE_op, evE_and, evE_or, evE_not, evE_ite, evE_tup, evE_lst, fin0, fin1, fin2, fin3, evE_dsp, evE_call, evE_mut, evE_lc, evE_lc2, evE_dc, evL_nil, evL_pk, evL_lnt, evL_var, evL_non, evL_bl, evL_int, evL_str, evL_op, evL_tup, evL_lst, evL_call, evL_lc, evL_lc2, evL_dc, evL_ite, evL_and, evL_or, evL_not, bind_ok, ofE_ok, ofO_some, next_nx, next_ret, rdS_0, rdS_s, Option.isSome_some, if_true, Bool.false_eq_true, if_false, lnts, callO, back, endF, readAll, Option.map_some, Option.bind_some, List.set_cons_zero, List.set_cons_succ, asgT, Dt.truthy, g_digits, e_gt, hd', g_fold, g_count, e_add, e_mul _ _ (by decide : -(2 ^ 64) < (9001 : Int) ∧ (9001 : Int) < 2 ^ 64), ep, e_mod _ 2305843009213693951 (by decide), e_int, e_div _ 512 (by decide) (by decide), e_mod _ _ h1]
theorem f_draw (k : Nat) {p : D} {c many : Int} (g : Gp c p) (hc : c + 1 ≤ 1000000) (h1 : 0 < many) (h2 : many ≤ 1000) : ∃ (r : Int) (p' : D), Dt.run P0 0 (k + 1) 19 [p, .int many] = .ret (.int r) [p'] ∧ 0 ≤ r ∧ r < many ∧ Gp (c + 1) p' := by
  obtain ⟨cells, j, dg, ct, fd, rfl, a1, a2, a3, a4, a5, a6⟩ := g.ex
  have p18 : opR .pow false [PyData.int 10, .int 18] = some (.int 1000000000000000000) := e_pow 10 18 (by decide) (by decide)
  rw [run__law_draw]
  generalize Ev.mk (Dt.run P0 0 k) 0 P0.sub = V
  show ∃ r p', endF [0] (evS V (S.seq _ (S.seq _ bT)) _) = _ ∧ _
  rw [evS_seq]
  simp only [evS_seq, evS_skip, evS_frz, evS_set, evS_exp, evS_ret, evS_ite, evS_par, evS_putS, evS_putA, evS_for, evT_op, evT_call, evT_var, evT_bl, evT_and, evT_or, evT_not, evE_var, evE_non, evE_bl, evE_int, evE_str, evE_op, evE_and, evE_or, evE_not, evE_ite, evE_tup, evE_lst, fin0, fin1, fin2, fin3, evE_dsp, evE_call, evE_mut, evE_lc, evE_lc2, evE_dc, evL_nil, evL_pk, evL_lnt, evL_var, evL_non, evL_bl, evL_int, evL_str, evL_op, evL_tup, evL_lst, evL_call, evL_lc, evL_lc2, evL_dc, evL_ite, evL_and, evL_or, evL_not, bind_ok, ofE_ok, ofO_some, next_nx, next_ret, rdS_0, rdS_s, Option.isSome_some, if_true, Bool.false_eq_true, if_false, lnts, callO, back, endF, readAll, Option.map_some, Option.bind_some, List.set_cons_zero, List.set_cons_succ, asgT, Dt.truthy, g_count, e_add, mutO, s_count]
  by_cases hq : dg = 0
  · subst hq
    by_cases hl : j < cells.length
    · have hl' : (decide ((j : Int) < (cells.length : Int))) = true := decide_eq_true (by omega)
      by_cases hx : (1000000000000000000 : Int) ≤ cells[j]
      · have T := @f_tail V (c + 1) many cells (j + 1) (cells[j] - 1000000000000000000) (ct + 1) fd (some (.int cells[j])) none none hc h1 h2 (by omega) (by omega) (by omega) a5 a6 (by omega)
        rw [Int.natCast_add, Int.natCast_one] at T
        simp only [evS_seq, evS_skip, evS_frz, evS_set, evS_exp, evS_ret, evS_ite, evS_par, evS_putS, evS_putA, evS_for, evT_op, evT_call, evT_var, evT_bl, evT_and, evT_or, evT_not, evE_var, evE_non, evE_bl, evE_int, evE_str, evE_op, evE_and, evE_or, evE_not, evE_ite, evE_tup, evE_lst, fin0, fin1, fin2, fin3, evE_dsp, evE_call, evE_mut, evE_lc, evE_lc2, evE_dc, evL_nil, evL_pk, evL_lnt, evL_var, evL_non, evL_bl, evL_int, evL_str, evL_op, evL_tup, evL_lst, evL_call, evL_lc, evL_lc2, evL_dc, evL_ite, evL_and, evL_or, evL_not, bind_ok, ofE_ok, ofO_some, next_nx, next_ret, rdS_0, rdS_s, Option.isSome_some, if_true, Bool.false_eq_true, if_false, lnts, callO, back, endF, readAll, Option.map_some, Option.bind_some, List.set_cons_zero, List.set_cons_succ, asgT, Dt.truthy, g_digits, g_at, g_cells, e_eqi, e_lt, e_lenL, decide_true, hl', e_ixL _ _ hl, e_add, e_ge, p18, hx, e_sub, mutO, s_at, s_digits]
        exact T
      · have hx' : (decide ((1000000000000000000 : Int) ≤ cells[j])) = false := decide_eq_false hx
        have T := @f_tail V (c + 1) many cells (j + 1) 0 (ct + 1) ((fd * 50021 + cells[j]) % 2147483549) (some (.int cells[j])) none none hc h1 h2 (by omega) (by omega) (by omega) (Int.emod_nonneg _ (by decide)) (Int.emod_lt_of_pos _ (by decide)) (by omega)
        rw [Int.natCast_add, Int.natCast_one] at T
        simp only [evS_seq, evS_skip, evS_frz, evS_set, evS_exp, evS_ret, evS_ite, evS_par, evS_putS, evS_putA, evS_for, evT_op, evT_call, evT_var, evT_bl, evT_and, evT_or, evT_not, evE_var, evE_non, evE_bl, evE_int, evE_str, evE_op, evE_and, evE_or, evE_not, evE_ite, evE_tup, evE_lst, fin0, fin1, fin2, fin3, evE_dsp, evE_call, evE_mut, evE_lc, evE_lc2, evE_dc, evL_nil, evL_pk, evL_lnt, evL_var, evL_non, evL_bl, evL_int, evL_str, evL_op, evL_tup, evL_lst, evL_call, evL_lc, evL_lc2, evL_dc, evL_ite, evL_and, evL_or, evL_not, bind_ok, ofE_ok, ofO_some, next_nx, next_ret, rdS_0, rdS_s, Option.isSome_some, if_true, Bool.false_eq_true, if_false, lnts, callO, back, endF, readAll, Option.map_some, Option.bind_some, List.set_cons_zero, List.set_cons_succ, asgT, Dt.truthy, g_digits, g_at, g_cells, g_fold, e_eqi, e_lt, e_lenL, decide_true, hl', e_ixL _ _ hl, e_add, e_ge, p18, hx', e_mul _ _ (by decide : -(2 ^ 64) < (50021 : Int) ∧ (50021 : Int) < 2 ^ 64), e_int, e_mod _ 2147483549 (by decide), mutO, s_at, s_fold]
        exact T
    · have hl' : (decide ((j : Int) < (cells.length : Int))) = false := decide_eq_false (by omega)
      have T := @f_tail V (c + 1) many cells j 0 (ct + 1) fd none none none hc h1 h2 (by omega) (by omega) (by omega) a5 a6 (by omega)
      simp only [evS_seq, evS_skip, evS_frz, evS_set, evS_exp, evS_ret, evS_ite, evS_par, evS_putS, evS_putA, evS_for, evT_op, evT_call, evT_var, evT_bl, evT_and, evT_or, evT_not, evE_var, evE_non, evE_bl, evE_int, evE_str, evE_op, evE_and, evE_or, evE_not, evE_ite, evE_tup, evE_lst, fin0, fin1, fin2, fin3, evE_dsp, evE_call, evE_mut, evE_lc, evE_lc2, evE_dc, evL_nil, evL_pk, evL_lnt, evL_var, evL_non, evL_bl, evL_int, evL_str, evL_op, evL_tup, evL_lst, evL_call, evL_lc, evL_lc2, evL_dc, evL_ite, evL_and, evL_or, evL_not, bind_ok, ofE_ok, ofO_some, next_nx, next_ret, rdS_0, rdS_s, Option.isSome_some, if_true, Bool.false_eq_true, if_false, lnts, callO, back, endF, readAll, Option.map_some, Option.bind_some, List.set_cons_zero, List.set_cons_succ, asgT, Dt.truthy, g_digits, g_at, g_cells, e_eqi, e_lt, e_lenL, decide_true, hl']
      exact T
  · have hq' : decide (dg = 0) = false := decide_eq_false hq
    have T := @f_tail V (c + 1) many cells j dg (ct + 1) fd none none none hc h1 h2 (by omega) (by omega) (by omega) a5 a6 (by omega)
    simp only [evS_seq, evS_skip, evS_frz, evS_set, evS_exp, evS_ret, evS_ite, evS_par, evS_putS, evS_putA, evS_for, evT_op, evT_call, evT_var, evT_bl, evT_and, evT_or, evT_not, evE_var, evE_non, evE_bl, evE_int, evE_str, evE_op, evE_and, evE_or, evE_not, evE_ite, evE_tup, evE_lst, fin0, fin1, fin2, fin3, evE_dsp, evE_call, evE_mut, evE_lc, evE_lc2, evE_dc, evL_nil, evL_pk, evL_lnt, evL_var, evL_non, evL_bl, evL_int, evL_str, evL_op, evL_tup, evL_lst, evL_call, evL_lc, evL_lc2, evL_dc, evL_ite, evL_and, evL_or, evL_not, bind_ok, ofE_ok, ofO_some, next_nx, next_ret, rdS_0, rdS_s, Option.isSome_some, if_true, Bool.false_eq_true, if_false, lnts, callO, back, endF, readAll, Option.map_some, Option.bind_some, List.set_cons_zero, List.set_cons_succ, asgT, Dt.truthy, g_digits, e_eqi, hq']
    exact T
end K36
end
section
set_option Elab.async false
set_option linter.all false
set_option maxRecDepth 100000
set_option maxHeartbeats 4000000
namespace K36
open PySem Dt
theorem e_list (ds : List D) : opR .list false [PyData.list ds] = some (.list ds) := rfl
theorem f_pen (k : Nat) (ns : List Int) (hl : ns.length ≤ 1000) : ∃ p, Dt.run P0 0 (k + 1) 18 [.list (iL ns)] = .ret p [] ∧ Gp 0 p := by
  have loop := for_inv (f := forF ⟨Dt.run P0 0 k, 0, P0.sub⟩ (.v 2) (.seq (.set 1 (.op .mod false (.cons (.op .int false (.cons (.op .add false (.cons (.op .mul false (.cons (.pk 1) (.cons (.int 89) .nil))) (.cons (.pk 2) .nil))) .nil)) (.cons (.int 1000000271) .nil)))) .skip)) (items := iL ns) (σ := [some (.list (iL ns)), some (.int 0), none])
    (fun rest σ => ∃ (rs : List Int) (fd : Int) (o : Option D), rest = iL rs ∧ σ = [some (.list (iL ns)), some (.int fd), o] ∧ 0 ≤ fd ∧ fd < 1000000271)
    ⟨ns, 0, none, rfl, rfl, by decide, by decide⟩ (by
      rintro d rest σ _ ⟨rs, fd, o, e1, rfl, e3, e4⟩
      cases rs with
      | nil => cases e1
      | cons x rs =>
        cases e1
        refine ⟨[some (.list (iL ns)), some (.int ((fd * 89 + x) % 1000000271)), some (.int x)], .inl ?_, rs, _, _, rfl, rfl, Int.emod_nonneg _ (by decide), Int.emod_lt_of_pos _ (by decide)⟩
        unfold forF
        simp only [evS_seq, evS_skip, evS_frz, evS_set, evS_exp, evS_ret, evS_ite, evS_par, evS_putS, evS_putA, evS_for, evT_op, evT_call, evT_var, evT_bl, evT_and, evT_or, evT_not, evE_var, evE_non, evE_bl, evE_int, evE_str, evE_op, evE_and, evE_or, evE_not, evE_ite, evE_tup, evE_lst, fin0, fin1, fin2, fin3, evE_dsp, evE_call, evE_mut, evE_lc, evE_lc2, evE_dc, evL_nil, evL_pk, evL_lnt, evL_var, evL_non, evL_bl, evL_int, evL_str, evL_op, evL_tup, evL_lst, evL_call, evL_lc, evL_lc2, evL_dc, evL_ite, evL_and, evL_or, evL_not, bind_ok, ofE_ok, ofO_some, next_nx, next_ret, rdS_0, rdS_s, Option.isSome_some, if_true, Bool.false_eq_true, if_false, lnts, callO, back, endF, readAll, Option.map_some, Option.bind_some, List.set_cons_zero, List.set_cons_succ, asgT, Dt.truthy, e_mul _ _ (by decide : -(2 ^ 64) < (89 : Int) ∧ (89 : Int) < 2 ^ 64), e_add, e_int, e_mod _ 1000000271 (by decide)])
  obtain ⟨σ', q1, rs, fd, o, er, rfl, q3, q4⟩ := loop
  refine ⟨P ns 0 0 0 fd, ?_, ns, 0, 0, 0, fd, rfl, by omega, by decide, by decide, by decide, q3, by omega⟩
  rw [run__law_pen]
  unfold b__law_pen
  simp only [evS_seq, evS_skip, evS_frz, evS_set, evS_exp, evS_ret, evS_ite, evS_par, evS_putS, evS_putA, evS_for, evT_op, evT_call, evT_var, evT_bl, evT_and, evT_or, evT_not, evE_var, evE_non, evE_bl, evE_int, evE_str, evE_op, evE_and, evE_or, evE_not, evE_ite, evE_tup, evE_lst, fin0, fin1, fin2, fin3, evE_dsp, evE_call, evE_mut, evE_lc, evE_lc2, evE_dc, evL_nil, evL_pk, evL_lnt, evL_var, evL_non, evL_bl, evL_int, evL_str, evL_op, evL_tup, evL_lst, evL_call, evL_lc, evL_lc2, evL_dc, evL_ite, evL_and, evL_or, evL_not, bind_ok, ofE_ok, ofO_some, next_nx, next_ret, rdS_0, rdS_s, Option.isSome_some, if_true, Bool.false_eq_true, if_false, lnts, callO, back, endF, readAll, Option.map_some, Option.bind_some, List.set_cons_zero, List.set_cons_succ, asgT, Dt.truthy, items1, itemsF, Dt.listOf]
  rw [q1]
  simp only [evS_seq, evS_skip, evS_frz, evS_set, evS_exp, evS_ret, evS_ite, evS_par, evS_putS, evS_putA, evS_for, evT_op, evT_call, evT_var, evT_bl, evT_and, evT_or, evT_not, evE_var, evE_non, evE_bl, evE_int, evE_str, evE_op, evE_and, evE_or, evE_not, evE_ite, evE_tup, evE_lst, fin0, fin1, fin2, fin3, evE_dsp, evE_call, evE_mut, evE_lc, evE_lc2, evE_dc, evL_nil, evL_pk, evL_lnt, evL_var, evL_non, evL_bl, evL_int, evL_str, evL_op, evL_tup, evL_lst, evL_call, evL_lc, evL_lc2, evL_dc, evL_ite, evL_and, evL_or, evL_not, bind_ok, ofE_ok, ofO_some, next_nx, next_ret, rdS_0, rdS_s, Option.isSome_some, if_true, Bool.false_eq_true, if_false, lnts, callO, back, endF, readAll, Option.map_some, Option.bind_some, List.set_cons_zero, List.set_cons_succ, asgT, Dt.truthy, e_list]
  rfl
theorem e_nilL (w : List Int) : opR .eq false [PyData.list (iL w), PyData.list []] = some (.bool w.isEmpty) := by
  unfold opR
  have ok : ∀ w : List Int, okD (PyData.list (iL w)) = true := by
    intro w
    obtain ⟨h1, h2⟩ := okD_ints w
    show (PyData.canLayAll0 (iL w) && decide (PyData.depth (PyData.list (iL w)) ≤ 64)) = true
    rw [h1]
    have : PyData.depth (PyData.list (iL w)) ≤ 64 := by
      simp only [PyData.depth]
      omega
    simp [this]
  have e : opF .eq [PyData.list (iL w), PyData.list []] = some (.bool w.isEmpty) := by
    show dBool (if okD (PyData.list (iL w)) && okD (PyData.list []) then some (PyData.eqv (.list (iL w)) (.list [])) else none) = _
    rw [ok w, show okD (PyData.list []) = true from ok []]
    simp only [Bool.and_self, if_true]
    cases w with
    | nil => simp [PyData.eqv, PyData.eqvAll, dBool]
    | cons x w => simp [PyData.eqv, PyData.eqvAll, dBool]
  rw [e]
  simp only [Option.bind_some, Bool.false_eq_true, if_false]
theorem alt_iff (r : List Int) : alt r = true ↔ ∀ j, (h : j + 1 < r.length) → r[j] ≠ r[j + 1] := by
  unfold alt
  rw [List.all_eq_true]
  constructor
  · intro h j hj
    have m : (r[j], r[j + 1]) ∈ r.zip (r.drop 1) := by
      rw [List.mem_iff_getElem]
      refine ⟨j, by rw [List.length_zip, List.length_drop]; omega, ?_⟩
      rw [List.getElem_zip, List.getElem_drop]
      simp only [Nat.add_comm]
    simpa using h _ m
  · intro h p hp
    obtain ⟨j, hj, rfl⟩ := List.mem_iff_getElem.mp hp
    rw [List.length_zip, List.length_drop] at hj
    rw [List.getElem_zip, List.getElem_drop]
    have := h j (by omega)
    simp only [Nat.add_comm 1 j]
    simpa using this
def pL (r : List Int) : D → Bool
  | .int i => decide (r[(i - 1).toNat]?.getD 0 = r[i.toNat]?.getD 0)
  | _ => false
theorem pL_filter (r : List Int) : ∃ ys : List Int, ((rangeD 1 (r.length : Nat)).filter (pL r)).map id = iL ys ∧ ys.isEmpty = alt r := by
  refine ⟨((List.range ((r.length : Int) - 1).toNat).map fun i : Nat => (1 : Int) + i).filter (fun i => pL r (.int i)), ?_, ?_⟩
  · unfold rangeD
    rw [List.map_id, show ((List.range ((r.length : Int) - 1).toNat).map fun (i : Nat) => PyData.int (1 + i)) = iL ((List.range ((r.length : Int) - 1).toNat).map fun i : Nat => (1 : Int) + i) by show _ = List.map PyData.int (List.map _ _); rw [List.map_map]; rfl, List.filter_map]
    rfl
  · rw [Bool.eq_iff_iff, alt_iff, List.isEmpty_iff, List.filter_eq_nil_iff]
    constructor
    · intro h j hj e
      refine h (1 + j) (List.mem_map.mpr ⟨j, List.mem_range.mpr (by omega), rfl⟩) ?_
      show decide (r[((1 : Int) + j - 1).toNat]?.getD 0 = r[((1 : Int) + j).toNat]?.getD 0) = true
      rw [show ((1 : Int) + j - 1).toNat = j by omega, show ((1 : Int) + j).toNat = j + 1 by omega, List.getElem?_eq_getElem (by omega), List.getElem?_eq_getElem hj, e]
      simp
    · rintro h i hi q
      obtain ⟨j, hj, rfl⟩ := List.mem_map.mp hi
      have hj := List.mem_range.mp hj
      refine h j (by omega) ?_
      have q : decide (r[((1 : Int) + j - 1).toNat]?.getD 0 = r[((1 : Int) + j).toNat]?.getD 0) = true := q
      rw [show ((1 : Int) + j - 1).toNat = j by omega, show ((1 : Int) + j).toNat = j + 1 by omega, List.getElem?_eq_getElem (by omega), List.getElem?_eq_getElem (by omega)] at q
      simpa using q
def pQ (a b : Int) : D → Bool
  | .int x => decide (x = a) || decide (x = b)
  | _ => false
theorem f_lturns (k : Nat) (w : List Int) (a b : Int) (hl : w.length ≤ 1000) : Dt.run P0 0 (k + 1) 21 [tp w, .int a, .int b] = .ret (.bool (alt (fil w a b))) [] := by
  have hf : (fil w a b).length ≤ 1000 := Nat.le_trans (List.length_filter_le ..) hl
  obtain ⟨ys, y1, y2⟩ := pL_filter (fil w a b)
  have R : ∀ V : Ev, runG [4] .list (turnG [4] (.v 4) (evT V (.op .isIn false (.cons (.pk 4) (.cons (.tup (.cons (.var 1) (.cons (.var 2) .nil))) .nil)))) (app1 (evE V (.var 4)))) [] (iL w) [some (tp w), some (.int a), some (.int b), none, none] = .ok (.list (iL (fil w a b))) [some (tp w), some (.int a), some (.int b), none, none] := by
    intro V
    have e1 : ((iL w).filter (pQ a b)).map id = iL (fil w a b) := by
      rw [List.map_id, List.filter_map]
      rfl
    rw [← e1]
    refine run_pure (pQ a b) id (w0 := [some (tp w), some (.int a), some (.int b), none, none]) rfl (by rw [sl24, List.length_map]; omega) ?_
    intro d hd
    obtain ⟨x, hx, rfl⟩ := List.mem_map.mp hd
    refine ⟨[some (tp w), some (.int a), some (.int b), none, some (.int x)], rfl, rfl, ?_, fun _ => ?_⟩
    · have e : dIn (.int x) (tp [a, b]) = some (decide (x = a) || decide (x = b)) := by
        show (if okD (.int x) && okD (tp [a, b]) then some ((iL [a, b]).any fun z => PyData.eqv z (.int x)) else none) = _
        rw [okD_tp]
        simp [okD_int, eqv_int, eq_comm]
      have e : dIn (.int x) (.tuple [.int a, .int b]) = some (decide (x = a) || decide (x = b)) := e
      have e9 : opR .isIn false [PyData.int x, .tuple [.int a, .int b]] = some (.bool (decide (x = a) || decide (x = b))) := by
        unfold opR opF
        simp only [e, dBool, Option.map_some, Option.bind_some, Bool.false_eq_true, if_false]
      simp only [evS_seq, evS_skip, evS_frz, evS_set, evS_exp, evS_ret, evS_ite, evS_par, evS_putS, evS_putA, evS_for, evT_op, evT_call, evT_var, evT_bl, evT_and, evT_or, evT_not, evE_var, evE_non, evE_bl, evE_int, evE_str, evE_op, evE_and, evE_or, evE_not, evE_ite, evE_tup, evE_lst, fin0, fin1, fin2, fin3, evE_dsp, evE_call, evE_mut, evE_lc, evE_lc2, evE_dc, evL_nil, evL_pk, evL_lnt, evL_var, evL_non, evL_bl, evL_int, evL_str, evL_op, evL_tup, evL_lst, evL_call, evL_lc, evL_lc2, evL_dc, evL_ite, evL_and, evL_or, evL_not, bind_ok, ofE_ok, ofO_some, next_nx, next_ret, rdS_0, rdS_s, Option.isSome_some, if_true, Bool.false_eq_true, if_false, lnts, callO, back, endF, readAll, Option.map_some, Option.bind_some, List.set_cons_zero, List.set_cons_succ, asgT, Dt.truthy, e9, pQ]
    · simp only [evS_seq, evS_skip, evS_frz, evS_set, evS_exp, evS_ret, evS_ite, evS_par, evS_putS, evS_putA, evS_for, evT_op, evT_call, evT_var, evT_bl, evT_and, evT_or, evT_not, evE_var, evE_non, evE_bl, evE_int, evE_str, evE_op, evE_and, evE_or, evE_not, evE_ite, evE_tup, evE_lst, fin0, fin1, fin2, fin3, evE_dsp, evE_call, evE_mut, evE_lc, evE_lc2, evE_dc, evL_nil, evL_pk, evL_lnt, evL_var, evL_non, evL_bl, evL_int, evL_str, evL_op, evL_tup, evL_lst, evL_call, evL_lc, evL_lc2, evL_dc, evL_ite, evL_and, evL_or, evL_not, bind_ok, ofE_ok, ofO_some, next_nx, next_ret, rdS_0, rdS_s, Option.isSome_some, if_true, Bool.false_eq_true, if_false, lnts, callO, back, endF, readAll, Option.map_some, Option.bind_some, List.set_cons_zero, List.set_cons_succ, asgT, Dt.truthy, id]
  have R2 : ∀ V : Ev, runG [4] .list (turnG [4] (.v 4) (evT V (.op .eq false (.cons (.op .idx false (.cons (.pk 3) (.cons (.op .sub false (.cons (.pk 4) (.cons (.int 1) .nil))) .nil))) (.cons (.op .idx false (.cons (.pk 3) (.cons (.pk 4) .nil))) .nil)))) (app1 (evE V (.var 4)))) [] (rangeD 1 ((fil w a b).length : Nat)) [some (tp w), some (.int a), some (.int b), some (.list (iL (fil w a b))), none] = .ok (.list (iL ys)) [some (tp w), some (.int a), some (.int b), some (.list (iL (fil w a b))), none] := by
    intro V
    rw [← y1]
    refine run_pure (pL (fil w a b)) id (w0 := [some (tp w), some (.int a), some (.int b), some (.list (iL (fil w a b))), none]) rfl (by rw [sl24, rg_len]; omega) ?_
    intro d hd
    obtain ⟨i, rfl, i1, i2⟩ := rg_mem hd
    have h0 : (i - 1).toNat < (fil w a b).length := by omega
    have h1 : i.toNat < (fil w a b).length := by omega
    have q0 : opR .idx false [PyData.list (iL (fil w a b)), .int (i - 1)] = some (.int (fil w a b)[(i - 1).toNat]) := by
      have := e_ixL (fil w a b) (i - 1).toNat h0
      rw [show (((i - 1).toNat : Nat) : Int) = i - 1 by omega] at this
      exact this
    have q1 : opR .idx false [PyData.list (iL (fil w a b)), .int i] = some (.int (fil w a b)[i.toNat]) := by
      have := e_ixL (fil w a b) i.toNat h1
      rw [show ((i.toNat : Nat) : Int) = i by omega] at this
      exact this
    have pe : pL (fil w a b) (.int i) = decide ((fil w a b)[(i - 1).toNat] = (fil w a b)[i.toNat]) := by
      show decide ((fil w a b)[(i - 1).toNat]?.getD 0 = (fil w a b)[i.toNat]?.getD 0) = _
      rw [List.getElem?_eq_getElem h0, List.getElem?_eq_getElem h1]
      rfl
    exact ⟨[some (tp w), some (.int a), some (.int b), some (PyData.list (iL (fil w a b))), some (.int i)], rfl, rfl, by simp only [evS_seq, evS_skip, evS_frz, evS_set, evS_exp, evS_ret, evS_ite, evS_par, evS_putS, evS_putA, evS_for, evT_op, evT_call, evT_var, evT_bl, evT_and, evT_or, evT_not, evE_var, evE_non, evE_bl, evE_int, evE_str, evE_op, evE_and, evE_or, evE_not, evE_ite, evE_tup, evE_lst, fin0, fin1, fin2, fin3, evE_dsp, evE_call, evE_mut, evE_lc, evE_lc2, evE_dc, evL_nil, evL_pk, evL_lnt, evL_var, evL_non, evL_bl, evL_int, evL_str, evL_op, evL_tup, evL_lst, evL_call, evL_lc, evL_lc2, evL_dc, evL_ite, evL_and, evL_or, evL_not, bind_ok, ofE_ok, ofO_some, next_nx, next_ret, rdS_0, rdS_s, Option.isSome_some, if_true, Bool.false_eq_true, if_false, lnts, callO, back, endF, readAll, Option.map_some, Option.bind_some, List.set_cons_zero, List.set_cons_succ, asgT, Dt.truthy, e_sub, q0, q1, e_eqi, pe], fun _ => by simp only [evS_seq, evS_skip, evS_frz, evS_set, evS_exp, evS_ret, evS_ite, evS_par, evS_putS, evS_putA, evS_for, evT_op, evT_call, evT_var, evT_bl, evT_and, evT_or, evT_not, evE_var, evE_non, evE_bl, evE_int, evE_str, evE_op, evE_and, evE_or, evE_not, evE_ite, evE_tup, evE_lst, fin0, fin1, fin2, fin3, evE_dsp, evE_call, evE_mut, evE_lc, evE_lc2, evE_dc, evL_nil, evL_pk, evL_lnt, evL_var, evL_non, evL_bl, evL_int, evL_str, evL_op, evL_tup, evL_lst, evL_call, evL_lc, evL_lc2, evL_dc, evL_ite, evL_and, evL_or, evL_not, bind_ok, ofE_ok, ofO_some, next_nx, next_ret, rdS_0, rdS_s, Option.isSome_some, if_true, Bool.false_eq_true, if_false, lnts, callO, back, endF, readAll, Option.map_some, Option.bind_some, List.set_cons_zero, List.set_cons_succ, asgT, Dt.truthy, id]⟩
  have r2 : itR2 (.int 1) (.int ((fil w a b).length : Nat)) = some (rangeD 1 ((fil w a b).length : Nat)) := it_r2 1 _ hf (by decide) (by decide)
  rw [run__law_by_turns]
  unfold b__law_by_turns
  simp only [evS_seq, evS_skip, evS_frz, evS_set, evS_exp, evS_ret, evS_ite, evS_par, evS_putS, evS_putA, evS_for, evT_op, evT_call, evT_var, evT_bl, evT_and, evT_or, evT_not, evE_var, evE_non, evE_bl, evE_int, evE_str, evE_op, evE_and, evE_or, evE_not, evE_ite, evE_tup, evE_lst, fin0, fin1, fin2, fin3, evE_dsp, evE_call, evE_mut, evE_lc, evE_lc2, evE_dc, evL_nil, evL_pk, evL_lnt, evL_var, evL_non, evL_bl, evL_int, evL_str, evL_op, evL_tup, evL_lst, evL_call, evL_lc, evL_lc2, evL_dc, evL_ite, evL_and, evL_or, evL_not, bind_ok, ofE_ok, ofO_some, next_nx, next_ret, rdS_0, rdS_s, Option.isSome_some, if_true, Bool.false_eq_true, if_false, lnts, callO, back, endF, readAll, Option.map_some, Option.bind_some, List.set_cons_zero, List.set_cons_succ, asgT, Dt.truthy, items1, itemsF, Dt.listOf]
  rw [R]
  simp only [evS_seq, evS_skip, evS_frz, evS_set, evS_exp, evS_ret, evS_ite, evS_par, evS_putS, evS_putA, evS_for, evT_op, evT_call, evT_var, evT_bl, evT_and, evT_or, evT_not, evE_var, evE_non, evE_bl, evE_int, evE_str, evE_op, evE_and, evE_or, evE_not, evE_ite, evE_tup, evE_lst, fin0, fin1, fin2, fin3, evE_dsp, evE_call, evE_mut, evE_lc, evE_lc2, evE_dc, evL_nil, evL_pk, evL_lnt, evL_var, evL_non, evL_bl, evL_int, evL_str, evL_op, evL_tup, evL_lst, evL_call, evL_lc, evL_lc2, evL_dc, evL_ite, evL_and, evL_or, evL_not, bind_ok, ofE_ok, ofO_some, next_nx, next_ret, rdS_0, rdS_s, Option.isSome_some, if_true, Bool.false_eq_true, if_false, lnts, callO, back, endF, readAll, Option.map_some, Option.bind_some, List.set_cons_zero, List.set_cons_succ, asgT, Dt.truthy, e_lenL, items1, itemsF, r2]
  rw [R2]
  simp only [evS_seq, evS_skip, evS_frz, evS_set, evS_exp, evS_ret, evS_ite, evS_par, evS_putS, evS_putA, evS_for, evT_op, evT_call, evT_var, evT_bl, evT_and, evT_or, evT_not, evE_var, evE_non, evE_bl, evE_int, evE_str, evE_op, evE_and, evE_or, evE_not, evE_ite, evE_tup, evE_lst, fin0, fin1, fin2, fin3, evE_dsp, evE_call, evE_mut, evE_lc, evE_lc2, evE_dc, evL_nil, evL_pk, evL_lnt, evL_var, evL_non, evL_bl, evL_int, evL_str, evL_op, evL_tup, evL_lst, evL_call, evL_lc, evL_lc2, evL_dc, evL_ite, evL_and, evL_or, evL_not, bind_ok, ofE_ok, ofO_some, next_nx, next_ret, rdS_0, rdS_s, Option.isSome_some, if_true, Bool.false_eq_true, if_false, lnts, callO, back, endF, readAll, Option.map_some, Option.bind_some, List.set_cons_zero, List.set_cons_succ, asgT, Dt.truthy, e_nilL, y2]
end K36
end
section
set_option Elab.async false
set_option linter.all false
set_option maxRecDepth 100000
set_option maxHeartbeats 4000000
namespace K36
open PySem Dt
theorem e_catL (u v : List D) (h : u.length + v.length ≤ 1000) : opR .add false [PyData.list u, PyData.list v] = some (.list (u ++ v)) := by
  unfold opR
  have e : opF .add [PyData.list u, PyData.list v] = some (.list (u ++ v)) := by
    show fAdd (PyData.list u) (PyData.list v) = _
    unfold fAdd
    simp only
    rw [if_pos (by rw [sl24]; omega)]
  rw [e]
  simp only [Option.bind_some, Bool.false_eq_true, if_false]
theorem s_ltold (k n : Nat) (w : List Int) (hw : w.length ≤ 1000) (hn : n ≤ 12) (acc : List D) (o : Option D) (a : Int) (h1 : 0 ≤ a) (h2 : a < n) (la : acc.length ≤ 500) :
    forF ⟨Dt.run P0 0 (k + 1), 0, P0.sub⟩ (.v 3) (.seq (.set 2 (.op .add false (.cons (.pk 2) (.cons (.lc [4] (.v 4) .range2 (.cons (.op .add false (.cons (.pk 3) (.cons (.int 1) .nil))) (.cons (.var 0) .nil)) (.call 21 (.cons (.var 1) (.cons (.var 3) (.cons (.var 4) .nil)))) .F (.tup (.cons (.var 3) (.cons (.var 4) .nil)))) .nil)))) .skip) (.int a) [some (.int n), some (tp w), some (.list acc), o, none] = .nx [some (.int n), some (tp w), some (.list (acc ++ PR n w a)), some (.int a), none] := by
  have R : runG [4] .list (turnG [4] (.v 4) (evT ⟨Dt.run P0 0 (k + 1), 0, P0.sub⟩ (.call 21 (.cons (.var 1) (.cons (.var 3) (.cons (.var 4) .nil))))) (app1 (evE ⟨Dt.run P0 0 (k + 1), 0, P0.sub⟩ (.tup (.cons (.var 3) (.cons (.var 4) .nil)))))) [] (rangeD (a + 1) n) [some (.int n), some (tp w), some (.list acc), some (.int a), none] = .ok (.list (PR n w a)) [some (.int n), some (tp w), some (.list acc), some (.int a), none] := by
    unfold PR
    refine run_pure (pB w a) (pF a) (w0 := [some (.int n), some (tp w), some (.list acc), some (.int a), none]) rfl (by rw [sl24, rg_len]; omega) ?_
    intro d hd
    obtain ⟨b, rfl, _⟩ := rg_mem hd
    exact ⟨[some (.int n), some (tp w), some (.list acc), some (.int a), some (.int b)], rfl, rfl, by simp only [evS_seq, evS_skip, evS_frz, evS_set, evS_exp, evS_ret, evS_ite, evS_par, evS_putS, evS_putA, evS_for, evT_op, evT_call, evT_var, evT_bl, evT_and, evT_or, evT_not, evE_var, evE_non, evE_bl, evE_int, evE_str, evE_op, evE_and, evE_or, evE_not, evE_ite, evE_tup, evE_lst, fin0, fin1, fin2, fin3, evE_dsp, evE_call, evE_mut, evE_lc, evE_lc2, evE_dc, evL_nil, evL_pk, evL_lnt, evL_var, evL_non, evL_bl, evL_int, evL_str, evL_op, evL_tup, evL_lst, evL_call, evL_lc, evL_lc2, evL_dc, evL_ite, evL_and, evL_or, evL_not, bind_ok, ofE_ok, ofO_some, next_nx, next_ret, rdS_0, rdS_s, Option.isSome_some, if_true, Bool.false_eq_true, if_false, lnts, callO, back, endF, readAll, Option.map_some, Option.bind_some, List.set_cons_zero, List.set_cons_succ, asgT, Dt.truthy, f_lturns k w a b hw, pB], fun _ => by simp only [evS_seq, evS_skip, evS_frz, evS_set, evS_exp, evS_ret, evS_ite, evS_par, evS_putS, evS_putA, evS_for, evT_op, evT_call, evT_var, evT_bl, evT_and, evT_or, evT_not, evE_var, evE_non, evE_bl, evE_int, evE_str, evE_op, evE_and, evE_or, evE_not, evE_ite, evE_tup, evE_lst, fin0, fin1, fin2, fin3, evE_dsp, evE_call, evE_mut, evE_lc, evE_lc2, evE_dc, evL_nil, evL_pk, evL_lnt, evL_var, evL_non, evL_bl, evL_int, evL_str, evL_op, evL_tup, evL_lst, evL_call, evL_lc, evL_lc2, evL_dc, evL_ite, evL_and, evL_or, evL_not, bind_ok, ofE_ok, ofO_some, next_nx, next_ret, rdS_0, rdS_s, Option.isSome_some, if_true, Bool.false_eq_true, if_false, lnts, callO, back, endF, readAll, Option.map_some, Option.bind_some, List.set_cons_zero, List.set_cons_succ, asgT, Dt.truthy, pF]⟩
  have lp := PR_len n w a h1
  unfold forF
  simp only [evS_seq, evS_skip, evS_frz, evS_set, evS_exp, evS_ret, evS_ite, evS_par, evS_putS, evS_putA, evS_for, evT_op, evT_call, evT_var, evT_bl, evT_and, evT_or, evT_not, evE_var, evE_non, evE_bl, evE_int, evE_str, evE_op, evE_and, evE_or, evE_not, evE_ite, evE_tup, evE_lst, fin0, fin1, fin2, fin3, evE_dsp, evE_call, evE_mut, evE_lc, evE_lc2, evE_dc, evL_nil, evL_pk, evL_lnt, evL_var, evL_non, evL_bl, evL_int, evL_str, evL_op, evL_tup, evL_lst, evL_call, evL_lc, evL_lc2, evL_dc, evL_ite, evL_and, evL_or, evL_not, bind_ok, ofE_ok, ofO_some, next_nx, next_ret, rdS_0, rdS_s, Option.isSome_some, if_true, Bool.false_eq_true, if_false, lnts, callO, back, endF, readAll, Option.map_some, Option.bind_some, List.set_cons_zero, List.set_cons_succ, asgT, Dt.truthy, e_add, items1, itemsF, it_r2 (a + 1) n (by omega) (by omega) (by omega)]
  rw [R]
  simp only [evS_seq, evS_skip, evS_frz, evS_set, evS_exp, evS_ret, evS_ite, evS_par, evS_putS, evS_putA, evS_for, evT_op, evT_call, evT_var, evT_bl, evT_and, evT_or, evT_not, evE_var, evE_non, evE_bl, evE_int, evE_str, evE_op, evE_and, evE_or, evE_not, evE_ite, evE_tup, evE_lst, fin0, fin1, fin2, fin3, evE_dsp, evE_call, evE_mut, evE_lc, evE_lc2, evE_dc, evL_nil, evL_pk, evL_lnt, evL_var, evL_non, evL_bl, evL_int, evL_str, evL_op, evL_tup, evL_lst, evL_call, evL_lc, evL_lc2, evL_dc, evL_ite, evL_and, evL_or, evL_not, bind_ok, ofE_ok, ofO_some, next_nx, next_ret, rdS_0, rdS_s, Option.isSome_some, if_true, Bool.false_eq_true, if_false, lnts, callO, back, endF, readAll, Option.map_some, Option.bind_some, List.set_cons_zero, List.set_cons_succ, asgT, Dt.truthy, e_catL acc (PR n w a) (by omega)]
theorem f_ltold (k n : Nat) (w : List Int) (hw : w.length ≤ 1000) (hn : n ≤ 12) : Dt.run P0 0 (k + 2) 22 [.int n, tp w] = .ret (.tuple [.int n, .tuple (pairs n w)]) [] := by
  have hp := pairs_len n w hn
  have loop := for_inv (f := forF ⟨Dt.run P0 0 (k + 1), 0, P0.sub⟩ (.v 3) (.seq (.set 2 (.op .add false (.cons (.pk 2) (.cons (.lc [4] (.v 4) .range2 (.cons (.op .add false (.cons (.pk 3) (.cons (.int 1) .nil))) (.cons (.var 0) .nil)) (.call 21 (.cons (.var 1) (.cons (.var 3) (.cons (.var 4) .nil)))) .F (.tup (.cons (.var 3) (.cons (.var 4) .nil)))) .nil)))) .skip)) (items := rangeD 0 n) (σ := [some (.int n), some (tp w), some (.list []), none, none])
    (fun rest σ => (∀ d ∈ rest, d ∈ rangeD 0 n) ∧ ∃ acc o, σ = [some (.int n), some (tp w), some (.list acc), o, none] ∧ acc ++ rest.flatMap (fun d => PR n w (asI d)) = pairs n w)
    ⟨fun d h => h, [], none, rfl, rfl⟩ (by
      rintro d rest σ _ ⟨sub, acc, o, rfl, tot⟩
      obtain ⟨a, rfl, h1, h2⟩ := rg_mem (sub d (List.mem_cons_self ..))
      rw [List.flatMap_cons, ← List.append_assoc] at tot
      have la : acc.length ≤ 500 := by
        have := congrArg List.length tot
        rw [List.length_append, List.length_append] at this
        omega
      exact ⟨_, .inl (s_ltold k n w hw hn acc o a h1 h2 la), fun d h => sub d (List.mem_cons_of_mem _ h), acc ++ PR n w a, some (.int a), rfl, tot⟩)
  obtain ⟨σ', q1, _, acc, o, rfl, q3⟩ := loop
  rw [List.flatMap_nil, List.append_nil] at q3
  subst q3
  rw [run__law_told_web]
  unfold b__law_told_web
  simp only [evS_seq, evS_skip, evS_frz, evS_set, evS_exp, evS_ret, evS_ite, evS_par, evS_putS, evS_putA, evS_for, evT_op, evT_call, evT_var, evT_bl, evT_and, evT_or, evT_not, evE_var, evE_non, evE_bl, evE_int, evE_str, evE_op, evE_and, evE_or, evE_not, evE_ite, evE_tup, evE_lst, fin0, fin1, fin2, fin3, evE_dsp, evE_call, evE_mut, evE_lc, evE_lc2, evE_dc, evL_nil, evL_pk, evL_lnt, evL_var, evL_non, evL_bl, evL_int, evL_str, evL_op, evL_tup, evL_lst, evL_call, evL_lc, evL_lc2, evL_dc, evL_ite, evL_and, evL_or, evL_not, bind_ok, ofE_ok, ofO_some, next_nx, next_ret, rdS_0, rdS_s, Option.isSome_some, if_true, Bool.false_eq_true, if_false, lnts, callO, back, endF, readAll, Option.map_some, Option.bind_some, List.set_cons_zero, List.set_cons_succ, asgT, Dt.truthy, items1, itemsF, it_r1 n (by omega)]
  rw [q1]
  simp only [evS_seq, evS_skip, evS_frz, evS_set, evS_exp, evS_ret, evS_ite, evS_par, evS_putS, evS_putA, evS_for, evT_op, evT_call, evT_var, evT_bl, evT_and, evT_or, evT_not, evE_var, evE_non, evE_bl, evE_int, evE_str, evE_op, evE_and, evE_or, evE_not, evE_ite, evE_tup, evE_lst, fin0, fin1, fin2, fin3, evE_dsp, evE_call, evE_mut, evE_lc, evE_lc2, evE_dc, evL_nil, evL_pk, evL_lnt, evL_var, evL_non, evL_bl, evL_int, evL_str, evL_op, evL_tup, evL_lst, evL_call, evL_lc, evL_lc2, evL_dc, evL_ite, evL_and, evL_or, evL_not, bind_ok, ofE_ok, ofO_some, next_nx, next_ret, rdS_0, rdS_s, Option.isSome_some, if_true, Bool.false_eq_true, if_false, lnts, callO, back, endF, readAll, Option.map_some, Option.bind_some, List.set_cons_zero, List.set_cons_succ, asgT, Dt.truthy, e_tup]
end K36
end
section
set_option Elab.async false
set_option linter.all false
set_option maxRecDepth 100000
set_option maxHeartbeats 4000000
namespace K36
open PySem Dt
theorem e_loL (w : List Int) (v : Nat) : opR .sliceL false [PyData.list (iL w), .int v] = some (.list (iL (w.drop v))) := by
  show some (PyData.list (cutD (iL w) (some (v : Int)) none)) = _
  rw [cut_lo, ← List.map_drop]
theorem e_hiL (w : List Int) (v : Nat) : opR .sliceH false [PyData.list (iL w), .int v] = some (.list (iL (w.take v))) := by
  show some (PyData.list (cutD (iL w) none (some (v : Int)))) = _
  rw [cut_hi, ← List.map_take]
theorem e_app (w : List Int) (x : Int) (h : w.length ≤ 1000) : mopF .append (.list (iL w)) [.int x] = some (.none, .list (iL (w ++ [x]))) := by
  show (if (iL w).length < sizeLine then some (PyData.none, PyData.list (iL w ++ [.int x])) else none) = _
  rw [if_pos (by rw [sl24, List.length_map]; omega)]
  show some (PyData.none, PyData.list (List.map PyData.int w ++ List.map PyData.int [x])) = some (PyData.none, PyData.list (List.map PyData.int (w ++ [x])))
  rw [← List.map_append]
theorem s_shuf (k : Nat) {p : D} {c : Int} (l rs fs : List Int) (o4 o5 : Option D) (d : D) (g : Gp c p) (hc : c + 1 ≤ 1000000) (h0 : 0 < rs.length) (h1 : rs.length ≤ 100) (h2 : fs.length ≤ 100) :
    ∃ (j : Nat) (hj : j < rs.length) (p' : D), Gp (c + 1) p' ∧ forF ⟨Dt.run P0 0 (k + 1), 0, P0.sub⟩ (.v 4) (.seq (.set 5 (.call 19 (.cons (.lnt 0) (.cons (.op .len false (.cons (.pk 2) .nil)) .nil)))) (.seq (.exp (.mut .append 3 (.cons (.op .idx false (.cons (.pk 2) (.cons (.pk 5) .nil))) .nil))) (.seq (.set 2 (.op .add false (.cons (.op .sliceH false (.cons (.pk 2) (.cons (.pk 5) .nil))) (.cons (.op .sliceL false (.cons (.pk 2) (.cons (.op .add false (.cons (.pk 5) (.cons (.int 1) .nil))) .nil))) .nil)))) .skip))) d [some p, some (.list (iL l)), some (.list (iL rs)), some (.list (iL fs)), o4, o5]
      = .nx [some p', some (.list (iL l)), some (.list (iL (rs.take j ++ rs.drop (j + 1)))), some (.list (iL (fs ++ [rs[j]]))), some d, some (.int j)] := by
  obtain ⟨r, p', e, r1, r2, g'⟩ := f_draw k (many := (rs.length : Nat)) g hc (by omega) (by omega)
  obtain ⟨j, rfl⟩ : ∃ j : Nat, r = j := ⟨r.toNat, by omega⟩
  have hj : j < rs.length := by omega
  refine ⟨j, hj, p', g', ?_⟩
  have lo : opR .sliceL false [PyData.list (iL rs), .int ((j : Int) + 1)] = some (.list (iL (rs.drop (j + 1)))) := e_loL rs (j + 1)
  have il : ∀ σ xs, rdS σ 3 = some (.list xs) → isLs σ 3 = true := by
    intro σ xs h
    unfold isLs
    rw [h]
  unfold forF
  simp only [evS_seq, evS_skip, evS_frz, evS_set, evS_exp, evS_ret, evS_ite, evS_par, evS_putS, evS_putA, evS_for, evT_op, evT_call, evT_var, evT_bl, evT_and, evT_or, evT_not, evE_var, evE_non, evE_bl, evE_int, evE_str, evE_op, evE_and, evE_or, evE_not, evE_ite, evE_tup, evE_lst, fin0, fin1, fin2, fin3, evE_dsp, evE_call, evE_mut, evE_lc, evE_lc2, evE_dc, evL_nil, evL_pk, evL_lnt, evL_var, evL_non, evL_bl, evL_int, evL_str, evL_op, evL_tup, evL_lst, evL_call, evL_lc, evL_lc2, evL_dc, evL_ite, evL_and, evL_or, evL_not, bind_ok, ofE_ok, ofO_some, next_nx, next_ret, rdS_0, rdS_s, Option.isSome_some, if_true, Bool.false_eq_true, if_false, lnts, callO, back, endF, readAll, Option.map_some, Option.bind_some, List.set_cons_zero, List.set_cons_succ, asgT, Dt.truthy, e_lenL, e, e_ixL rs j hj, isLs, mutO, e_app fs rs[j] (by omega), e_hiL, e_add, lo, e_catL (iL (rs.take j)) (iL (rs.drop (j + 1))) (by simp; omega), List.map_append]
theorem f_shuf (k : Nat) {p : D} {c : Int} (l : List Int) (g : Gp c p) (hc : c + 100 ≤ 1000000) (hl : l.length ≤ 100) : ∃ (fs : List Int) (p' : D), Dt.run P0 0 (k + 2) 20 [p, .list (iL l)] = .ret (.list (iL fs)) [p'] ∧ fs.Perm l ∧ Gp (c + l.length) p' := by
  have loop := for_inv (f := forF ⟨Dt.run P0 0 (k + 1), 0, P0.sub⟩ (.v 4) (.seq (.set 5 (.call 19 (.cons (.lnt 0) (.cons (.op .len false (.cons (.pk 2) .nil)) .nil)))) (.seq (.exp (.mut .append 3 (.cons (.op .idx false (.cons (.pk 2) (.cons (.pk 5) .nil))) .nil))) (.seq (.set 2 (.op .add false (.cons (.op .sliceH false (.cons (.pk 2) (.cons (.pk 5) .nil))) (.cons (.op .sliceL false (.cons (.pk 2) (.cons (.op .add false (.cons (.pk 5) (.cons (.int 1) .nil))) .nil))) .nil)))) .skip)))) (items := rangeD 0 l.length) (σ := [some p, some (.list (iL l)), some (.list (iL l)), some (.list (iL [])), none, none])
    (fun rest σ => ∃ (rs fs : List Int) (p' : D) (o4 o5 : Option D), σ = [some p', some (.list (iL l)), some (.list (iL rs)), some (.list (iL fs)), o4, o5] ∧ rs.length = rest.length ∧ (fs ++ rs).Perm l ∧ Gp (c + l.length - rs.length) p')
    ⟨l, [], p, none, none, rfl, by rw [rg_len]; omega, List.Perm.refl _, by rw [show c + (l.length : Int) - l.length = c by omega]; exact g⟩ (by
      rintro d rest σ _ ⟨rs, fs, p', o4, o5, rfl, e1, e2, e3⟩
      rw [List.length_cons] at e1
      have tl := e2.length_eq
      rw [List.length_append] at tl
      obtain ⟨j, hj, p2, g2, st⟩ := s_shuf k l rs fs o4 o5 d e3 (by omega) (by omega) (by omega) (by omega)
      refine ⟨_, .inl st, _, _, p2, _, _, rfl, ?_, ?_, ?_⟩
      · rw [List.length_append, List.length_take, List.length_drop]; omega
      · refine List.Perm.trans ?_ e2
        rw [List.append_assoc]
        refine List.Perm.append_left fs ?_
        have : rs = rs.take j ++ rs[j] :: rs.drop (j + 1) := by
          rw [← List.drop_eq_getElem_cons hj, List.take_append_drop]
        conv => rhs; rw [this]
        exact (List.perm_middle (a := rs[j]) (l₁ := rs.take j) (l₂ := rs.drop (j + 1))).symm
      · have : c + (l.length : Int) - ((rs.take j ++ rs.drop (j + 1)).length : Nat) = c + (l.length : Int) - rs.length + 1 := by
          rw [List.length_append, List.length_take, List.length_drop]; omega
        rw [this]
        exact g2)
  obtain ⟨σ', q1, rs, fs, p', o4, o5, rfl, q3, q4, q5⟩ := loop
  cases rs with
  | cons _ _ => cases q3
  | nil =>
    refine ⟨fs, p', ?_, by simpa using q4, by simpa using q5⟩
    rw [run__law_shuffled]
    unfold b__law_shuffled
    simp only [evS_seq, evS_skip, evS_frz, evS_set, evS_exp, evS_ret, evS_ite, evS_par, evS_putS, evS_putA, evS_for, evT_op, evT_call, evT_var, evT_bl, evT_and, evT_or, evT_not, evE_var, evE_non, evE_bl, evE_int, evE_str, evE_op, evE_and, evE_or, evE_not, evE_ite, evE_tup, evE_lst, fin0, fin1, fin2, fin3, evE_dsp, evE_call, evE_mut, evE_lc, evE_lc2, evE_dc, evL_nil, evL_pk, evL_lnt, evL_var, evL_non, evL_bl, evL_int, evL_str, evL_op, evL_tup, evL_lst, evL_call, evL_lc, evL_lc2, evL_dc, evL_ite, evL_and, evL_or, evL_not, bind_ok, ofE_ok, ofO_some, next_nx, next_ret, rdS_0, rdS_s, Option.isSome_some, if_true, Bool.false_eq_true, if_false, lnts, callO, back, endF, readAll, Option.map_some, Option.bind_some, List.set_cons_zero, List.set_cons_succ, asgT, Dt.truthy, e_list, e_lenL, items1, itemsF, it_r1 l.length (by omega), asgT]
    have q1 := q1
    simp only [List.map_nil] at q1
    rw [q1]
    simp only [evS_seq, evS_skip, evS_frz, evS_set, evS_exp, evS_ret, evS_ite, evS_par, evS_putS, evS_putA, evS_for, evT_op, evT_call, evT_var, evT_bl, evT_and, evT_or, evT_not, evE_var, evE_non, evE_bl, evE_int, evE_str, evE_op, evE_and, evE_or, evE_not, evE_ite, evE_tup, evE_lst, fin0, fin1, fin2, fin3, evE_dsp, evE_call, evE_mut, evE_lc, evE_lc2, evE_dc, evL_nil, evL_pk, evL_lnt, evL_var, evL_non, evL_bl, evL_int, evL_str, evL_op, evL_tup, evL_lst, evL_call, evL_lc, evL_lc2, evL_dc, evL_ite, evL_and, evL_or, evL_not, bind_ok, ofE_ok, ofO_some, next_nx, next_ret, rdS_0, rdS_s, Option.isSome_some, if_true, Bool.false_eq_true, if_false, lnts, callO, back, endF, readAll, Option.map_some, Option.bind_some, List.set_cons_zero, List.set_cons_succ, asgT, Dt.truthy]
end K36
end
section
set_option Elab.async false
set_option linter.all false
set_option maxRecDepth 100000
set_option maxHeartbeats 4000000
namespace K36
open PySem Dt
abbrev rg (n : Nat) : List Int := (List.range n).map fun i : Nat => (i : Int)
theorem rg_iL (n : Nat) : rangeD 0 (n : Int) = iL (rg n) := by
  unfold rangeD
  show _ = List.map PyData.int (List.map _ _)
  rw [List.map_map, show ((n : Int) - 0).toNat = n by omega]
  refine List.map_congr_left fun i _ => ?_
  show PyData.int (0 + (i : Int)) = .int i
  rw [Int.zero_add]
theorem rg_count {n j : Nat} (h : j < n) : (rg n).count (j : Int) = 1 := by
  induction n with
  | zero => omega
  | succ n ih =>
    show ((List.range (n + 1)).map fun i : Nat => (i : Int)).count (j : Int) = 1
    rw [List.range_succ, List.map_append, List.count_append]
    by_cases q : j = n
    · subst q
      have z : ((List.range j).map fun i : Nat => (i : Int)).count (j : Int) = 0 := List.count_eq_zero.mpr (by simp; omega)
      rw [z]
      simp
    · have := ih (by omega)
      rw [show ((List.range n).map fun i : Nat => (i : Int)).count (j : Int) = 1 from this]
      have : (List.map (fun i : Nat => (i : Int)) [n]).count (j : Int) = 0 := List.count_eq_zero.mpr (by simp; omega)
      rw [this]
theorem W2_rg (n : Nat) (h : n ≤ 12) : W2 n (rg n ++ rg n) := ⟨fun x hx => by
  have : x ∈ rg n := by
    rcases List.mem_append.mp hx with h | h <;> exact h
  obtain ⟨i, hi, rfl⟩ := List.mem_map.mp this
  have := List.mem_range.mp hi
  omega, fun j hj => by rw [List.count_append, rg_count hj], by simp; omega, h⟩
theorem s_ins (k : Nat) {p : D} {c : Int} (n x : D) (w : List Int) (y : Int) (o4 o5 : Option D) (d : D) (g : Gp c p) (hc : c + 1 ≤ 1000000) (h1 : w.length ≤ 100) :
    ∃ (j : Nat) (p' : D), Gp (c + 1) p' ∧ forF ⟨Dt.run P0 0 (k + 1), 0, P0.sub⟩ (.v 4) (.seq (.set 5 (.op .max2 false (.cons (.int 0) (.cons (.op .sub false (.cons (.op .len false (.cons (.pk 2) .nil)) (.cons (.call 19 (.cons (.lnt 0) (.cons (.int 5) .nil))) .nil))) .nil)))) (.seq (.set 2 (.op .add false (.cons (.op .add false (.cons (.op .sliceH false (.cons (.pk 2) (.cons (.pk 5) .nil))) (.cons (.lst .F (.cons (.var 3) .nil)) .nil))) (.cons (.op .sliceL false (.cons (.pk 2) (.cons (.pk 5) .nil))) .nil)))) .skip)) d [some p, some n, some (.list (iL w)), some (.int y), o4, o5]
      = .nx [some p', some n, some (.list (iL (w.take j ++ [y] ++ w.drop j))), some (.int y), some d, some (.int j)] := by
  obtain ⟨r, p', e, r1, r2, g'⟩ := f_draw k (many := 5) g hc (by decide) (by decide)
  refine ⟨((w.length : Int) - r).toNat, p', g', ?_⟩
  have em : opR .max2 false [PyData.int 0, .int ((w.length : Int) - r)] = some (.int (((w.length : Int) - r).toNat : Nat)) := by
    have q : (if ((w.length : Int) - r) > 0 then ((w.length : Int) - r) else 0) = (((w.length : Int) - r).toNat : Int) := by split <;> omega
    show some (PyData.int (if ((w.length : Int) - r) > 0 then ((w.length : Int) - r) else 0)) = _
    rw [q]
  unfold forF
  simp only [evS_seq, evS_skip, evS_frz, evS_set, evS_exp, evS_ret, evS_ite, evS_par, evS_putS, evS_putA, evS_for, evT_op, evT_call, evT_var, evT_bl, evT_and, evT_or, evT_not, evE_var, evE_non, evE_bl, evE_int, evE_str, evE_op, evE_and, evE_or, evE_not, evE_ite, evE_tup, evE_lst, fin0, fin1, fin2, fin3, evE_dsp, evE_call, evE_mut, evE_lc, evE_lc2, evE_dc, evL_nil, evL_pk, evL_lnt, evL_var, evL_non, evL_bl, evL_int, evL_str, evL_op, evL_tup, evL_lst, evL_call, evL_lc, evL_lc2, evL_dc, evL_ite, evL_and, evL_or, evL_not, bind_ok, ofE_ok, ofO_some, next_nx, next_ret, rdS_0, rdS_s, Option.isSome_some, if_true, Bool.false_eq_true, if_false, lnts, callO, back, endF, readAll, Option.map_some, Option.bind_some, List.set_cons_zero, List.set_cons_succ, asgT, Dt.truthy, e_lenL, e, e_sub, em, e_hiL, e_loL, e_catL (iL (w.take ((w.length : Int) - r).toNat)) [.int y] (by simp; omega), e_catL (iL (w.take ((w.length : Int) - r).toNat) ++ [.int y]) (iL (w.drop ((w.length : Int) - r).toNat)) (by simp; omega), List.map_append, List.map_cons, List.map_nil]
theorem ins_perm (w : List Int) (j : Nat) (y : Int) : (w.take j ++ [y] ++ w.drop j).Perm (y :: w) := by
  have h : (w.take j ++ y :: w.drop j).Perm (y :: (w.take j ++ w.drop j)) := List.perm_middle
  rw [List.take_append_drop] at h
  simpa using h
def bIn : S := (.seq (.set 5 (.op .max2 false (.cons (.int 0) (.cons (.op .sub false (.cons (.op .len false (.cons (.pk 2) .nil)) (.cons (.call 19 (.cons (.lnt 0) (.cons (.int 5) .nil))) .nil))) .nil)))) (.seq (.set 2 (.op .add false (.cons (.op .add false (.cons (.op .sliceH false (.cons (.pk 2) (.cons (.pk 5) .nil))) (.cons (.lst .F (.cons (.var 3) .nil)) .nil))) (.cons (.op .sliceL false (.cons (.pk 2) (.cons (.pk 5) .nil))) .nil)))) .skip))
theorem s_two (k : Nat) {p : D} {c : Int} (n : D) (w : List Int) (y : Int) (o3 o4 o5 : Option D) (g : Gp c p) (hc : c + 2 ≤ 1000000) (h1 : w.length ≤ 90) :
    ∃ (w' : List Int) (p' : D) (o4' o5' : Option D), w'.Perm (y :: y :: w) ∧ Gp (c + 2) p' ∧ forF ⟨Dt.run P0 0 (k + 1), 0, P0.sub⟩ (.v 3) (.seq (.for (.v 4) .range1 (.cons (.int 2) .nil) bIn) .skip) (.int y) [some p, some n, some (.list (iL w)), o3, o4, o5] = .nx [some p', some n, some (.list (iL w')), some (.int y), o4', o5'] := by
  obtain ⟨j, p1, g1, s1⟩ := s_ins k n (.int y) w y o4 o5 (.int 0) g (by omega) (by omega)
  have l1 := (ins_perm w j y).length_eq
  rw [List.length_cons] at l1
  obtain ⟨j2, p2, g2, s2⟩ := s_ins k n (.int y) (w.take j ++ [y] ++ w.drop j) y (some (.int 0)) (some (.int j)) (.int 1) g1 (by omega) (by omega)
  refine ⟨_, p2, some (.int 1), some (.int j2), ((ins_perm _ j2 y).trans ((ins_perm w j y).cons y)), by rw [show c + 2 = c + 1 + 1 by omega]; exact g2, ?_⟩
  have r2 : itR1 (.int 2) = some (rangeD 0 2) := it_r1 2 (by decide)
  have r3 : rangeD 0 2 = [.int 0, .int 1] := rfl
  change forF _ _ bIn _ _ = _ at s1 s2
  unfold forF
  simp only [evS_seq, evS_skip, evS_frz, evS_set, evS_exp, evS_ret, evS_ite, evS_par, evS_putS, evS_putA, evS_for, evT_op, evT_call, evT_var, evT_bl, evT_and, evT_or, evT_not, evE_var, evE_non, evE_bl, evE_int, evE_str, evE_op, evE_and, evE_or, evE_not, evE_ite, evE_tup, evE_lst, fin0, fin1, fin2, fin3, evE_dsp, evE_call, evE_mut, evE_lc, evE_lc2, evE_dc, evL_nil, evL_pk, evL_lnt, evL_var, evL_non, evL_bl, evL_int, evL_str, evL_op, evL_tup, evL_lst, evL_call, evL_lc, evL_lc2, evL_dc, evL_ite, evL_and, evL_or, evL_not, bind_ok, ofE_ok, ofO_some, next_nx, next_ret, rdS_0, rdS_s, Option.isSome_some, if_true, Bool.false_eq_true, if_false, lnts, callO, back, endF, readAll, Option.map_some, Option.bind_some, List.set_cons_zero, List.set_cons_succ, asgT, Dt.truthy, items1, itemsF, r2, r3]
  simp only [forLoop, s1, s2]
  simp only [evS_seq, evS_skip, evS_frz, evS_set, evS_exp, evS_ret, evS_ite, evS_par, evS_putS, evS_putA, evS_for, evT_op, evT_call, evT_var, evT_bl, evT_and, evT_or, evT_not, evE_var, evE_non, evE_bl, evE_int, evE_str, evE_op, evE_and, evE_or, evE_not, evE_ite, evE_tup, evE_lst, fin0, fin1, fin2, fin3, evE_dsp, evE_call, evE_mut, evE_lc, evE_lc2, evE_dc, evL_nil, evL_pk, evL_lnt, evL_var, evL_non, evL_bl, evL_int, evL_str, evL_op, evL_tup, evL_lst, evL_call, evL_lc, evL_lc2, evL_dc, evL_ite, evL_and, evL_or, evL_not, bind_ok, ofE_ok, ofO_some, next_nx, next_ret, rdS_0, rdS_s, Option.isSome_some, if_true, Bool.false_eq_true, if_false, lnts, callO, back, endF, readAll, Option.map_some, Option.bind_some, List.set_cons_zero, List.set_cons_succ, asgT, Dt.truthy]
end K36
end
section
set_option Elab.async false
set_option linter.all false
set_option maxRecDepth 100000
set_option maxHeartbeats 4000000
namespace K36
open PySem Dt
theorem Gp.mono {c c' : Int} {p : D} (g : Gp c p) (h : c ≤ c') : Gp c' p := by
  obtain ⟨cells, j, dg, ct, fd, e, a1, a2, a3, a4, a5, a6⟩ := g.ex
  exact ⟨cells, j, dg, ct, fd, e, a1, a2, a3, by omega, a5, a6⟩
theorem e_rg (n : Nat) (h : n ≤ 12) : opR .range1 false [PyData.int n] = some (.list (iL (rg n))) := by
  have e : fRange1 (PyData.int n) = some (.list (iL (rg n))) := by
    unfold fRange1
    simp only
    rw [inR_of (by omega) (by omega), decide_eq_true (by omega), ← rg_iL]
    rfl
  unfold opR
  show (fRange1 (PyData.int n)).bind _ = _
  rw [e]
  rfl
theorem e_tupL (w : List Int) : opR .tuple false [PyData.list (iL w)] = some (tp w) := rfl
theorem f_chord (k n : Nat) {p : D} {c : Int} (g : Gp c p) (hc : c + 200 ≤ 1000000) (hn : n ≤ 12) : ∃ (w : List Int) (p' : D), Dt.run P0 0 (k + 3) 23 [p, .int n] = .ret (tp w) [p'] ∧ W2 n w ∧ Gp (c + 100) p' := by
  have lr : (rg n).length = n := by simp
  obtain ⟨r, p1, e1, r1, r2, g1⟩ := f_draw (k + 1) (many := 2) g (by omega) (by decide) (by decide)
  by_cases hr : r = 0
  · obtain ⟨fs, p2, e2, q1, q2⟩ := f_shuf k (rg n ++ rg n) g1 (by omega) (by simp; omega)
    refine ⟨fs, p2, ?_, (W2_rg n hn).perm q1.symm, q2.mono (by simp; omega)⟩
    rw [show iL (rg n ++ rg n) = iL (rg n) ++ iL (rg n) from List.map_append] at e2
    rw [run__law_chord]
    unfold b__law_chord
    simp only [evS_seq, evS_skip, evS_frz, evS_set, evS_exp, evS_ret, evS_ite, evS_par, evS_putS, evS_putA, evS_for, evT_op, evT_call, evT_var, evT_bl, evT_and, evT_or, evT_not, evE_var, evE_non, evE_bl, evE_int, evE_str, evE_op, evE_and, evE_or, evE_not, evE_ite, evE_tup, evE_lst, fin0, fin1, fin2, fin3, evE_dsp, evE_call, evE_mut, evE_lc, evE_lc2, evE_dc, evL_nil, evL_pk, evL_lnt, evL_var, evL_non, evL_bl, evL_int, evL_str, evL_op, evL_tup, evL_lst, evL_call, evL_lc, evL_lc2, evL_dc, evL_ite, evL_and, evL_or, evL_not, bind_ok, ofE_ok, ofO_some, next_nx, next_ret, rdS_0, rdS_s, Option.isSome_some, if_true, Bool.false_eq_true, if_false, lnts, callO, back, endF, readAll, Option.map_some, Option.bind_some, List.set_cons_zero, List.set_cons_succ, asgT, Dt.truthy, e1, e_eqi, hr, decide_true, e_rg n hn, e_catL (iL (rg n)) (iL (rg n)) (by simp; omega), e2, e_tupL]
  · have hr' : decide (r = 0) = false := decide_eq_false hr
    obtain ⟨ps, p2, e2, q1, q2⟩ := f_shuf k (rg n) g1 (by omega) (by simp; omega)
    have loop := for_inv (f := forF ⟨Dt.run P0 0 (k + 2), 0, P0.sub⟩ (.v 3) (.seq (.for (.v 4) .range1 (.cons (.int 2) .nil) bIn) .skip)) (items := iL ps) (σ := [some p2, some (.int n), some (.list (iL [])), none, none, none])
      (fun rest σ => ∃ (rs w : List Int) (p' : D) (o3 o4 o5 : Option D), rest = iL rs ∧ σ = [some p', some (.int n), some (.list (iL w)), o3, o4, o5] ∧ (w ++ (rs ++ rs)).Perm (rg n ++ rg n) ∧ Gp (c + 50 - 2 * rs.length) p')
      ⟨ps, [], p2, none, none, none, rfl, rfl, q1.append q1, q2.mono (by have := q1.length_eq; omega)⟩ (by
        rintro d rest σ _ ⟨rs, w, p', o3, o4, o5, e1, rfl, e3, e4⟩
        cases rs with
        | nil => cases e1
        | cons x rs =>
          cases e1
          have tl := e3.length_eq
          simp only [List.length_append, List.length_cons, lr] at tl
          rw [List.length_cons] at e4
          obtain ⟨w', p3, o4', o5', z1, z2, z3⟩ := s_two (k + 1) (.int n) w x o3 o4 o5 e4 (by omega) (by omega)
          refine ⟨_, .inl z3, rs, w', p3, _, _, _, rfl, rfl, ?_, z2.mono (by omega)⟩
          refine (z1.append_right (rs ++ rs)).trans (List.Perm.trans ?_ e3)
          have a1 : (w ++ (x :: rs ++ x :: rs)).Perm (x :: (w ++ (rs ++ x :: rs))) := List.perm_middle
          have a2 : (w ++ (rs ++ x :: rs)).Perm (x :: (w ++ (rs ++ rs))) := by
            rw [← List.append_assoc, ← List.append_assoc]
            exact List.perm_middle
          exact (a1.trans (a2.cons x)).symm)
    obtain ⟨σ', l1, rs, w, p3, o3, o4, o5, er, rfl, l3, l4⟩ := loop
    cases rs with
    | cons _ _ => cases er
    | nil =>
      refine ⟨w, p3, ?_, (W2_rg n hn).perm (by simpa using l3.symm), l4.mono (by simp)⟩
      rw [run__law_chord]
      unfold b__law_chord
      show endF [0] (evS _ (.seq _ (.seq _ (.seq (.for _ _ _ (.seq (.for _ _ _ bIn) .skip)) _))) _) = _
      simp only [List.map_nil] at l1
      simp only [evS_seq, evS_skip, evS_frz, evS_set, evS_exp, evS_ret, evS_ite, evS_par, evS_putS, evS_putA, evS_for, evT_op, evT_call, evT_var, evT_bl, evT_and, evT_or, evT_not, evE_var, evE_non, evE_bl, evE_int, evE_str, evE_op, evE_and, evE_or, evE_not, evE_ite, evE_tup, evE_lst, fin0, fin1, fin2, fin3, evE_dsp, evE_call, evE_mut, evE_lc, evE_lc2, evE_dc, evL_nil, evL_pk, evL_lnt, evL_var, evL_non, evL_bl, evL_int, evL_str, evL_op, evL_tup, evL_lst, evL_call, evL_lc, evL_lc2, evL_dc, evL_ite, evL_and, evL_or, evL_not, bind_ok, ofE_ok, ofO_some, next_nx, next_ret, rdS_0, rdS_s, Option.isSome_some, if_true, Bool.false_eq_true, if_false, lnts, callO, back, endF, readAll, Option.map_some, Option.bind_some, List.set_cons_zero, List.set_cons_succ, asgT, Dt.truthy, e1, e_eqi, hr', e_rg n hn, e2, items1, itemsF, Dt.listOf]
      rw [l1]
      simp only [evS_seq, evS_skip, evS_frz, evS_set, evS_exp, evS_ret, evS_ite, evS_par, evS_putS, evS_putA, evS_for, evT_op, evT_call, evT_var, evT_bl, evT_and, evT_or, evT_not, evE_var, evE_non, evE_bl, evE_int, evE_str, evE_op, evE_and, evE_or, evE_not, evE_ite, evE_tup, evE_lst, fin0, fin1, fin2, fin3, evE_dsp, evE_call, evE_mut, evE_lc, evE_lc2, evE_dc, evL_nil, evL_pk, evL_lnt, evL_var, evL_non, evL_bl, evL_int, evL_str, evL_op, evL_tup, evL_lst, evL_call, evL_lc, evL_lc2, evL_dc, evL_ite, evL_and, evL_or, evL_not, bind_ok, ofE_ok, ofO_some, next_nx, next_ret, rdS_0, rdS_s, Option.isSome_some, if_true, Bool.false_eq_true, if_false, lnts, callO, back, endF, readAll, Option.map_some, Option.bind_some, List.set_cons_zero, List.set_cons_succ, asgT, Dt.truthy, e_tupL]
end K36
end
section
set_option Elab.async false
set_option linter.all false
set_option maxRecDepth 100000
set_option maxHeartbeats 4000000
namespace K36
open PySem Dt
/-! ### the least of some words -/
def llt : List Int → List Int → Bool
  | [], [] => false
  | [], _ :: _ => true
  | _ :: _, [] => false
  | x :: xs, y :: ys => if x = y then llt xs ys else decide (x < y)
theorem llt_eq : ∀ a b : List Int, W.listLt a b = llt a b
  | [], [] => rfl
  | [], _ :: _ => rfl
  | _ :: _, [] => rfl
  | x :: xs, y :: ys => by
    rw [W.listLt, llt, llt_eq xs ys]
    rfl
theorem dlt (a b : List Int) : W.dataLt (tp a) (tp b) = llt a b := (W.DatumOrd.lt_eq (α := W.Tup Int) ⟨a⟩ ⟨b⟩).trans (llt_eq a b)
def mn (x : List Int) (xs : List (List Int)) : List Int := xs.foldl (fun a y => if llt y a then y else a) x
theorem minD_mn (x : List Int) (xs : List (List Int)) : W.minD (tp x) (xs.map tp) = tp (mn x xs) := by
  unfold W.minD mn
  induction xs generalizing x with
  | nil => rfl
  | cons y xs ih =>
    rw [List.map_cons, List.foldl_cons, List.foldl_cons, dlt]
    by_cases h : llt y x = true
    · rw [if_pos h, if_pos h]; exact ih y
    · rw [if_neg h, if_neg h]; exact ih x
theorem llt_irr : ∀ a, llt a a = false
  | [] => rfl
  | x :: xs => by rw [llt, if_pos rfl]; exact llt_irr xs
theorem llt_anti : ∀ {a b}, llt a b = false → llt b a = false → a = b
  | [], [], _, _ => rfl
  | [], _ :: _, h, _ => by cases h
  | _ :: _, [], _, h => by cases h
  | x :: xs, y :: ys, h, g => by
    rw [llt] at h g
    by_cases e : x = y
    · subst e
      rw [if_pos rfl] at h g
      rw [llt_anti h g]
    · rw [if_neg e] at h
      rw [if_neg (fun q => e q.symm)] at g
      have := of_decide_eq_false h
      have := of_decide_eq_false g
      omega
/-- a ≤ z and y < a: y ≤ z -/
theorem llt_tr : ∀ {z a y}, llt z a = false → llt y a = true → llt z y = false
  | _, [], [], _, g => by cases g
  | _, [], _ :: _, _, g => by cases g
  | [], _ :: _, _, h, _ => by cases h
  | _ :: _, _ :: _, [], _, _ => rfl
  | w :: z, x :: a, v :: y, h, g => by
    rw [llt] at h g ⊢
    by_cases e : v = x
    · subst e
      rw [if_pos rfl] at g
      by_cases q : w = v
      · subst q
        rw [if_pos rfl] at h ⊢
        exact llt_tr h g
      · rw [if_neg q] at h ⊢
        exact h
    · rw [if_neg e] at g
      have g := of_decide_eq_true g
      by_cases q : w = x
      · subst q
        rw [if_neg (by omega)]
        exact decide_eq_false (by omega)
      · rw [if_neg q] at h
        have h := of_decide_eq_false h
        rw [if_neg (by omega)]
        exact decide_eq_false (by omega)
theorem mn_spec : ∀ (xs : List (List Int)) (x : List Int), mn x xs ∈ x :: xs ∧ ∀ y ∈ x :: xs, llt y (mn x xs) = false
  | [], x => ⟨List.mem_cons_self .., fun y hy => by rw [List.mem_singleton.mp hy]; exact llt_irr x⟩
  | z :: xs, x => by
    show mn (if llt z x then z else x) xs ∈ _ ∧ ∀ y ∈ _, llt y (mn (if llt z x then z else x) xs) = false
    obtain ⟨h1, h2⟩ := mn_spec xs (if llt z x then z else x)
    have up : ∀ {a b m : List Int}, llt a m = false → llt a b = true → llt b m = false := by
      intro a b m h g
      cases q : llt b m with
      | false => rfl
      | true =>
        have := llt_tr h (show llt b m = true from q)
        rw [this] at g
        cases g
    cases hz : llt z x with
    | true =>
      rw [hz] at h1 h2
      simp only [if_true] at h1 h2 ⊢
      refine ⟨List.mem_cons_of_mem _ h1, fun y hy => ?_⟩
      rcases List.mem_cons.mp hy with rfl | hy
      · exact up (h2 z (List.mem_cons_self ..)) hz
      · exact h2 y hy
    | false =>
      rw [hz] at h1 h2
      simp only [Bool.false_eq_true, if_false] at h1 h2 ⊢
      refine ⟨?_, fun y hy => ?_⟩
      · rcases List.mem_cons.mp h1 with h | h
        · rw [h]; exact List.mem_cons_self ..
        · exact List.mem_cons_of_mem _ (List.mem_cons_of_mem _ h)
      · rcases List.mem_cons.mp hy with rfl | hy
        · exact h2 y (List.mem_cons_self ..)
        · rcases List.mem_cons.mp hy with rfl | hy
          · cases q : llt y (mn x xs) with
            | false => rfl
            | true =>
              have h3 := h2 x (List.mem_cons_self ..)
              -- y < m ≤ x: y < x
              have : llt x y = false := llt_tr h3 q
              have e := llt_anti hz this
              subst e
              rw [h3] at q
              cases q
          · exact h2 y (List.mem_cons_of_mem _ hy)
theorem mn_set {x y : List Int} {xs ys : List (List Int)} (h : ∀ z, z ∈ x :: xs ↔ z ∈ y :: ys) : mn x xs = mn y ys := by
  obtain ⟨a1, a2⟩ := mn_spec xs x
  obtain ⟨b1, b2⟩ := mn_spec ys y
  exact llt_anti (b2 _ ((h _).mp a1)) (a2 _ ((h _).mpr b1))
end K36
end
section
set_option Elab.async false
set_option linter.all false
set_option maxRecDepth 100000
set_option maxHeartbeats 4000000
namespace K36
open PySem Dt
abbrev rots (w : List Int) : List (List Int) := (List.range w.length).map fun k => rot k w
abbrev rounds (w : List Int) : List (List Int) := rots w ++ rots w.reverse
def gR (w : List Int) : D → D
  | .int i => tp (rot i.toNat w)
  | _ => .none
theorem gR_map (w : List Int) : ((rangeD 0 (w.length : Nat)).filter fun _ => true).map (gR w) = (rots w).map tp := by
  rw [filt_all]
  unfold rangeD rots
  rw [List.map_map, List.map_map, show ((w.length : Int) - 0).toNat = w.length by omega]
  refine List.map_congr_left fun i _ => ?_
  show tp (rot ((0 : Int) + i).toNat w) = tp (rot i w)
  rw [show ((0 : Int) + i).toNat = i by omega]
theorem canOrd_tp (ws : List (List Int)) : canOrd (ws.map tp) = true := by
  have k : PyData.canLayAll0 (ws.map tp) = true ∧ PyData.depthAll (ws.map tp) ≤ 2 := by
    induction ws with
    | nil => exact ⟨rfl, by simp [PyData.depthAll]⟩
    | cons x ws ih =>
      obtain ⟨h1, h2⟩ := okD_ints x
      refine ⟨?_, ?_⟩
      · show (PyData.canLayAll0 (iL x) && PyData.canLayAll0 (ws.map tp)) = true
        rw [h1, ih.1]
        rfl
      · show PyData.depthAll (PyData.tuple (iL x) :: ws.map tp) ≤ 2
        have := ih.2
        simp only [PyData.depthAll, PyData.depth]
        omega
  have k1 : okD (PyData.list (ws.map tp)) = true := by
    show (PyData.canLayAll0 (ws.map tp) && decide (PyData.depth (PyData.list (ws.map tp)) ≤ 64)) = true
    rw [k.1]
    have : PyData.depth (PyData.list (ws.map tp)) ≤ 64 := by
      simp only [PyData.depth]
      omega
    simp [this]
  have k2 : alikeAll1 (ws.map tp) = true := by
    unfold alikeAll1
    rw [List.all_eq_true]
    intro x hx
    obtain ⟨a, _, rfl⟩ := List.mem_map.mp hx
    rw [List.all_eq_true]
    intro y hy
    obtain ⟨b, _, rfl⟩ := List.mem_map.mp hy
    exact W.DatumOrd.alike (α := W.Tup Int) ⟨a⟩ ⟨b⟩
  have k3 : (ws.map tp).all (fun y => !isNone y) = true := by
    rw [List.all_eq_true]
    intro x hx
    obtain ⟨a, _, rfl⟩ := List.mem_map.mp hx
    rfl
  unfold canOrd
  rw [k1, k2, k3]
  rfl
theorem e_min (x : List Int) (xs : List (List Int)) : opR .min1 false [PyData.list (tp x :: xs.map tp)] = some (tp (mn x xs)) := by
  show (fMin1 (PyData.list (tp x :: xs.map tp))).bind _ = _
  have e : fMin1 (PyData.list (tp x :: xs.map tp)) = some (tp (mn x xs)) := by
    show (if canOrd ((x :: xs).map tp) then some (W.minD (tp x) (xs.map tp)) else none) = _
    rw [canOrd_tp, minD_mn]
    rfl
  rw [e]
  rfl
theorem e_rev (w : List Int) : opR .rev false [tp w] = some (tp w.reverse) := by
  show some (PyData.tuple (iL w).reverse) = _
  rw [← List.map_reverse]
theorem R_rots (V : Ev) (w : List Int) (o0 o1 : Option D) (hw : w.length ≤ 500) : runG [3] .list (turnG [3] (.v 3) (evT V (.bl true)) (app1 (evE V (.op .add false (.cons (.op .sliceL false (.cons (.pk 2) (.cons (.pk 3) .nil))) (.cons (.op .sliceH false (.cons (.pk 2) (.cons (.pk 3) .nil))) .nil)))))) [] (rangeD 0 (w.length : Nat)) [o0, o1, some (tp w), none] = .ok (.list ((rots w).map tp)) [o0, o1, some (tp w), none] := by
  rw [← gR_map]
  refine run_pure (fun _ => true) (gR w) (w0 := [o0, o1, some (tp w), none]) rfl (by rw [sl24, rg_len]; omega) ?_
  intro d hd
  obtain ⟨i, rfl, i1, i2⟩ := rg_mem hd
  obtain ⟨j, rfl⟩ : ∃ j : Nat, i = j := ⟨i.toNat, by omega⟩
  refine ⟨[o0, o1, some (tp w), some (.int j)], rfl, rfl, by simp only [evS_seq, evS_skip, evS_frz, evS_set, evS_exp, evS_ret, evS_ite, evS_par, evS_putS, evS_putA, evS_for, evT_op, evT_call, evT_var, evT_bl, evT_and, evT_or, evT_not, evE_var, evE_non, evE_bl, evE_int, evE_str, evE_op, evE_and, evE_or, evE_not, evE_ite, evE_tup, evE_lst, fin0, fin1, fin2, fin3, evE_dsp, evE_call, evE_mut, evE_lc, evE_lc2, evE_dc, evL_nil, evL_pk, evL_lnt, evL_var, evL_non, evL_bl, evL_int, evL_str, evL_op, evL_tup, evL_lst, evL_call, evL_lc, evL_lc2, evL_dc, evL_ite, evL_and, evL_or, evL_not, bind_ok, ofE_ok, ofO_some, next_nx, next_ret, rdS_0, rdS_s, Option.isSome_some, if_true, Bool.false_eq_true, if_false, lnts, callO, back, endF, readAll, Option.map_some, Option.bind_some, List.set_cons_zero, List.set_cons_succ, asgT, Dt.truthy], fun _ => ?_⟩
  simp only [evS_seq, evS_skip, evS_frz, evS_set, evS_exp, evS_ret, evS_ite, evS_par, evS_putS, evS_putA, evS_for, evT_op, evT_call, evT_var, evT_bl, evT_and, evT_or, evT_not, evE_var, evE_non, evE_bl, evE_int, evE_str, evE_op, evE_and, evE_or, evE_not, evE_ite, evE_tup, evE_lst, fin0, fin1, fin2, fin3, evE_dsp, evE_call, evE_mut, evE_lc, evE_lc2, evE_dc, evL_nil, evL_pk, evL_lnt, evL_var, evL_non, evL_bl, evL_int, evL_str, evL_op, evL_tup, evL_lst, evL_call, evL_lc, evL_lc2, evL_dc, evL_ite, evL_and, evL_or, evL_not, bind_ok, ofE_ok, ofO_some, next_nx, next_ret, rdS_0, rdS_s, Option.isSome_some, if_true, Bool.false_eq_true, if_false, lnts, callO, back, endF, readAll, Option.map_some, Option.bind_some, List.set_cons_zero, List.set_cons_succ, asgT, Dt.truthy, e_lo w j false rfl, e_hi w j false rfl, e_cat (w.drop j) (w.take j) (by simp; omega), gR, Int.toNat_natCast]
theorem e_ext (xs ys : List D) (h : xs.length + ys.length ≤ 1000) : mopF .extend (.list xs) [.list ys] = some (.none, .list (xs ++ ys)) := by
  show (if xs.length + ys.length ≤ sizeLine then some (PyData.none, PyData.list (xs ++ ys)) else none) = _
  rw [if_pos (by rw [sl24]; omega)]
theorem rots_len (w : List Int) : ((rots w).map tp).length = w.length := by simp
theorem f_round_in (k : Nat) (w : List Int) (hw : w.length ≤ 24) : Dt.run P0 0 (k + 1) 16 [tp w] = .ret (tp (mn w (rounds w))) [] := by
  have R1 := R_rots ⟨Dt.run P0 0 k, 0, P0.sub⟩ w (some (tp w)) (some (.list [tp w])) (by omega)
  have R2 := R_rots ⟨Dt.run P0 0 k, 0, P0.sub⟩ w.reverse (some (tp w)) (some (.list (tp w :: (rots w).map tp))) (by simp; omega)
  have r1 : itR1 (.int (w.length : Nat)) = some (rangeD 0 (w.length : Nat)) := it_r1 _ (by omega)
  have r2 : itR1 (.int (w.reverse.length : Nat)) = some (rangeD 0 (w.reverse.length : Nat)) := it_r1 _ (by simp; omega)
  have l1 : ∀ u : List Int, opR .len false [tp u] = some (.int (u.length : Nat)) := by
    intro u
    show some (PyData.int ((iL u).length : Nat)) = _
    rw [List.length_map]
  have s1 : forF ⟨Dt.run P0 0 k, 0, P0.sub⟩ (.v 2) (.seq (.exp (.mut .extend 1 (.cons (.lc [3] (.v 3) .range1 (.cons (.op .len false (.cons (.pk 2) .nil)) .nil) (.bl true) .F (.op .add false (.cons (.op .sliceL false (.cons (.pk 2) (.cons (.pk 3) .nil))) (.cons (.op .sliceH false (.cons (.pk 2) (.cons (.pk 3) .nil))) .nil)))) .nil))) .skip) (tp w) [some (tp w), some (.list [tp w]), none, none] = .nx [some (tp w), some (.list (tp w :: (rots w).map tp)), some (tp w), none] := by
    unfold forF
    simp only [evS_seq, evS_skip, evS_frz, evS_set, evS_exp, evS_ret, evS_ite, evS_par, evS_putS, evS_putA, evS_for, evT_op, evT_call, evT_var, evT_bl, evT_and, evT_or, evT_not, evE_var, evE_non, evE_bl, evE_int, evE_str, evE_op, evE_and, evE_or, evE_not, evE_ite, evE_tup, evE_lst, fin0, fin1, fin2, fin3, evE_dsp, evE_call, evE_mut, evE_lc, evE_lc2, evE_dc, evL_nil, evL_pk, evL_lnt, evL_var, evL_non, evL_bl, evL_int, evL_str, evL_op, evL_tup, evL_lst, evL_call, evL_lc, evL_lc2, evL_dc, evL_ite, evL_and, evL_or, evL_not, bind_ok, ofE_ok, ofO_some, next_nx, next_ret, rdS_0, rdS_s, Option.isSome_some, if_true, Bool.false_eq_true, if_false, lnts, callO, back, endF, readAll, Option.map_some, Option.bind_some, List.set_cons_zero, List.set_cons_succ, asgT, Dt.truthy, isLs, l1, items1, itemsF, r1]
    rw [R1]
    simp only [evS_seq, evS_skip, evS_frz, evS_set, evS_exp, evS_ret, evS_ite, evS_par, evS_putS, evS_putA, evS_for, evT_op, evT_call, evT_var, evT_bl, evT_and, evT_or, evT_not, evE_var, evE_non, evE_bl, evE_int, evE_str, evE_op, evE_and, evE_or, evE_not, evE_ite, evE_tup, evE_lst, fin0, fin1, fin2, fin3, evE_dsp, evE_call, evE_mut, evE_lc, evE_lc2, evE_dc, evL_nil, evL_pk, evL_lnt, evL_var, evL_non, evL_bl, evL_int, evL_str, evL_op, evL_tup, evL_lst, evL_call, evL_lc, evL_lc2, evL_dc, evL_ite, evL_and, evL_or, evL_not, bind_ok, ofE_ok, ofO_some, next_nx, next_ret, rdS_0, rdS_s, Option.isSome_some, if_true, Bool.false_eq_true, if_false, lnts, callO, back, endF, readAll, Option.map_some, Option.bind_some, List.set_cons_zero, List.set_cons_succ, asgT, Dt.truthy, mutO, e_ext [tp w] ((rots w).map tp) (by rw [rots_len]; simp; omega)]
    rfl
  have s2 : forF ⟨Dt.run P0 0 k, 0, P0.sub⟩ (.v 2) (.seq (.exp (.mut .extend 1 (.cons (.lc [3] (.v 3) .range1 (.cons (.op .len false (.cons (.pk 2) .nil)) .nil) (.bl true) .F (.op .add false (.cons (.op .sliceL false (.cons (.pk 2) (.cons (.pk 3) .nil))) (.cons (.op .sliceH false (.cons (.pk 2) (.cons (.pk 3) .nil))) .nil)))) .nil))) .skip) (tp w.reverse) [some (tp w), some (.list (tp w :: (rots w).map tp)), some (tp w), none] = .nx [some (tp w), some (.list (tp w :: (rounds w).map tp)), some (tp w.reverse), none] := by
    unfold forF
    simp only [evS_seq, evS_skip, evS_frz, evS_set, evS_exp, evS_ret, evS_ite, evS_par, evS_putS, evS_putA, evS_for, evT_op, evT_call, evT_var, evT_bl, evT_and, evT_or, evT_not, evE_var, evE_non, evE_bl, evE_int, evE_str, evE_op, evE_and, evE_or, evE_not, evE_ite, evE_tup, evE_lst, fin0, fin1, fin2, fin3, evE_dsp, evE_call, evE_mut, evE_lc, evE_lc2, evE_dc, evL_nil, evL_pk, evL_lnt, evL_var, evL_non, evL_bl, evL_int, evL_str, evL_op, evL_tup, evL_lst, evL_call, evL_lc, evL_lc2, evL_dc, evL_ite, evL_and, evL_or, evL_not, bind_ok, ofE_ok, ofO_some, next_nx, next_ret, rdS_0, rdS_s, Option.isSome_some, if_true, Bool.false_eq_true, if_false, lnts, callO, back, endF, readAll, Option.map_some, Option.bind_some, List.set_cons_zero, List.set_cons_succ, asgT, Dt.truthy, isLs, l1, items1, itemsF, r2]
    rw [R2]
    simp only [evS_seq, evS_skip, evS_frz, evS_set, evS_exp, evS_ret, evS_ite, evS_par, evS_putS, evS_putA, evS_for, evT_op, evT_call, evT_var, evT_bl, evT_and, evT_or, evT_not, evE_var, evE_non, evE_bl, evE_int, evE_str, evE_op, evE_and, evE_or, evE_not, evE_ite, evE_tup, evE_lst, fin0, fin1, fin2, fin3, evE_dsp, evE_call, evE_mut, evE_lc, evE_lc2, evE_dc, evL_nil, evL_pk, evL_lnt, evL_var, evL_non, evL_bl, evL_int, evL_str, evL_op, evL_tup, evL_lst, evL_call, evL_lc, evL_lc2, evL_dc, evL_ite, evL_and, evL_or, evL_not, bind_ok, ofE_ok, ofO_some, next_nx, next_ret, rdS_0, rdS_s, Option.isSome_some, if_true, Bool.false_eq_true, if_false, lnts, callO, back, endF, readAll, Option.map_some, Option.bind_some, List.set_cons_zero, List.set_cons_succ, asgT, Dt.truthy, mutO, e_ext (tp w :: (rots w).map tp) ((rots w.reverse).map tp) (by rw [List.length_cons, rots_len, rots_len]; simp; omega)]
    rw [List.map_append]
    rfl
  rw [run_round_in]
  unfold b_round_in
  simp only [evS_seq, evS_skip, evS_frz, evS_set, evS_exp, evS_ret, evS_ite, evS_par, evS_putS, evS_putA, evS_for, evT_op, evT_call, evT_var, evT_bl, evT_and, evT_or, evT_not, evE_var, evE_non, evE_bl, evE_int, evE_str, evE_op, evE_and, evE_or, evE_not, evE_ite, evE_tup, evE_lst, fin0, fin1, fin2, fin3, evE_dsp, evE_call, evE_mut, evE_lc, evE_lc2, evE_dc, evL_nil, evL_pk, evL_lnt, evL_var, evL_non, evL_bl, evL_int, evL_str, evL_op, evL_tup, evL_lst, evL_call, evL_lc, evL_lc2, evL_dc, evL_ite, evL_and, evL_or, evL_not, bind_ok, ofE_ok, ofO_some, next_nx, next_ret, rdS_0, rdS_s, Option.isSome_some, if_true, Bool.false_eq_true, if_false, lnts, callO, back, endF, readAll, Option.map_some, Option.bind_some, List.set_cons_zero, List.set_cons_succ, asgT, Dt.truthy, e_rev, items1, itemsF, Dt.listOf]
  simp only [forLoop, s1, s2]
  simp only [evS_seq, evS_skip, evS_frz, evS_set, evS_exp, evS_ret, evS_ite, evS_par, evS_putS, evS_putA, evS_for, evT_op, evT_call, evT_var, evT_bl, evT_and, evT_or, evT_not, evE_var, evE_non, evE_bl, evE_int, evE_str, evE_op, evE_and, evE_or, evE_not, evE_ite, evE_tup, evE_lst, fin0, fin1, fin2, fin3, evE_dsp, evE_call, evE_mut, evE_lc, evE_lc2, evE_dc, evL_nil, evL_pk, evL_lnt, evL_var, evL_non, evL_bl, evL_int, evL_str, evL_op, evL_tup, evL_lst, evL_call, evL_lc, evL_lc2, evL_dc, evL_ite, evL_and, evL_or, evL_not, bind_ok, ofE_ok, ofO_some, next_nx, next_ret, rdS_0, rdS_s, Option.isSome_some, if_true, Bool.false_eq_true, if_false, lnts, callO, back, endF, readAll, Option.map_some, Option.bind_some, List.set_cons_zero, List.set_cons_succ, asgT, Dt.truthy, e_min]
end K36
end
section
set_option Elab.async false
set_option linter.all false
set_option maxRecDepth 100000
set_option maxHeartbeats 4000000
namespace K36
open PySem Dt
theorem f_lleast (k : Nat) (w : List Int) (hw : w.length ≤ 24) : Dt.run P0 0 (k + 1) 24 [tp w] = .ret (tp (mn w (rounds w))) [] := by
  have R1 := R_rots ⟨Dt.run P0 0 k, 0, P0.sub⟩ w (some (tp w)) (some (.list [tp w])) (by omega)
  have R2 := R_rots ⟨Dt.run P0 0 k, 0, P0.sub⟩ w.reverse (some (tp w)) (some (.list (tp w :: (rots w).map tp))) (by simp; omega)
  have r1 : itR1 (.int (w.length : Nat)) = some (rangeD 0 (w.length : Nat)) := it_r1 _ (by omega)
  have r2 : itR1 (.int (w.reverse.length : Nat)) = some (rangeD 0 (w.reverse.length : Nat)) := it_r1 _ (by simp; omega)
  have l1 : ∀ u : List Int, opR .len false [tp u] = some (.int (u.length : Nat)) := by
    intro u
    show some (PyData.int ((iL u).length : Nat)) = _
    rw [List.length_map]
  have s1 : forF ⟨Dt.run P0 0 k, 0, P0.sub⟩ (.v 2) (.seq (.set 1 (.op .add false (.cons (.pk 1) (.cons (.lc [3] (.v 3) .range1 (.cons (.op .len false (.cons (.pk 2) .nil)) .nil) (.bl true) .F (.op .add false (.cons (.op .sliceL false (.cons (.pk 2) (.cons (.pk 3) .nil))) (.cons (.op .sliceH false (.cons (.pk 2) (.cons (.pk 3) .nil))) .nil)))) .nil)))) .skip) (tp w) [some (tp w), some (.list [tp w]), none, none] = .nx [some (tp w), some (.list (tp w :: (rots w).map tp)), some (tp w), none] := by
    unfold forF
    simp only [evS_seq, evS_skip, evS_frz, evS_set, evS_exp, evS_ret, evS_ite, evS_par, evS_putS, evS_putA, evS_for, evT_op, evT_call, evT_var, evT_bl, evT_and, evT_or, evT_not, evE_var, evE_non, evE_bl, evE_int, evE_str, evE_op, evE_and, evE_or, evE_not, evE_ite, evE_tup, evE_lst, fin0, fin1, fin2, fin3, evE_dsp, evE_call, evE_mut, evE_lc, evE_lc2, evE_dc, evL_nil, evL_pk, evL_lnt, evL_var, evL_non, evL_bl, evL_int, evL_str, evL_op, evL_tup, evL_lst, evL_call, evL_lc, evL_lc2, evL_dc, evL_ite, evL_and, evL_or, evL_not, bind_ok, ofE_ok, ofO_some, next_nx, next_ret, rdS_0, rdS_s, Option.isSome_some, if_true, Bool.false_eq_true, if_false, lnts, callO, back, endF, readAll, Option.map_some, Option.bind_some, List.set_cons_zero, List.set_cons_succ, asgT, Dt.truthy, l1, items1, itemsF, r1]
    rw [R1]
    simp only [evS_seq, evS_skip, evS_frz, evS_set, evS_exp, evS_ret, evS_ite, evS_par, evS_putS, evS_putA, evS_for, evT_op, evT_call, evT_var, evT_bl, evT_and, evT_or, evT_not, evE_var, evE_non, evE_bl, evE_int, evE_str, evE_op, evE_and, evE_or, evE_not, evE_ite, evE_tup, evE_lst, fin0, fin1, fin2, fin3, evE_dsp, evE_call, evE_mut, evE_lc, evE_lc2, evE_dc, evL_nil, evL_pk, evL_lnt, evL_var, evL_non, evL_bl, evL_int, evL_str, evL_op, evL_tup, evL_lst, evL_call, evL_lc, evL_lc2, evL_dc, evL_ite, evL_and, evL_or, evL_not, bind_ok, ofE_ok, ofO_some, next_nx, next_ret, rdS_0, rdS_s, Option.isSome_some, if_true, Bool.false_eq_true, if_false, lnts, callO, back, endF, readAll, Option.map_some, Option.bind_some, List.set_cons_zero, List.set_cons_succ, asgT, Dt.truthy, e_catL [tp w] ((rots w).map tp) (by rw [rots_len]; simp; omega)]
    rfl
  have s2 : forF ⟨Dt.run P0 0 k, 0, P0.sub⟩ (.v 2) (.seq (.set 1 (.op .add false (.cons (.pk 1) (.cons (.lc [3] (.v 3) .range1 (.cons (.op .len false (.cons (.pk 2) .nil)) .nil) (.bl true) .F (.op .add false (.cons (.op .sliceL false (.cons (.pk 2) (.cons (.pk 3) .nil))) (.cons (.op .sliceH false (.cons (.pk 2) (.cons (.pk 3) .nil))) .nil)))) .nil)))) .skip) (tp w.reverse) [some (tp w), some (.list (tp w :: (rots w).map tp)), some (tp w), none] = .nx [some (tp w), some (.list (tp w :: (rounds w).map tp)), some (tp w.reverse), none] := by
    unfold forF
    simp only [evS_seq, evS_skip, evS_frz, evS_set, evS_exp, evS_ret, evS_ite, evS_par, evS_putS, evS_putA, evS_for, evT_op, evT_call, evT_var, evT_bl, evT_and, evT_or, evT_not, evE_var, evE_non, evE_bl, evE_int, evE_str, evE_op, evE_and, evE_or, evE_not, evE_ite, evE_tup, evE_lst, fin0, fin1, fin2, fin3, evE_dsp, evE_call, evE_mut, evE_lc, evE_lc2, evE_dc, evL_nil, evL_pk, evL_lnt, evL_var, evL_non, evL_bl, evL_int, evL_str, evL_op, evL_tup, evL_lst, evL_call, evL_lc, evL_lc2, evL_dc, evL_ite, evL_and, evL_or, evL_not, bind_ok, ofE_ok, ofO_some, next_nx, next_ret, rdS_0, rdS_s, Option.isSome_some, if_true, Bool.false_eq_true, if_false, lnts, callO, back, endF, readAll, Option.map_some, Option.bind_some, List.set_cons_zero, List.set_cons_succ, asgT, Dt.truthy, l1, items1, itemsF, r2]
    rw [R2]
    simp only [evS_seq, evS_skip, evS_frz, evS_set, evS_exp, evS_ret, evS_ite, evS_par, evS_putS, evS_putA, evS_for, evT_op, evT_call, evT_var, evT_bl, evT_and, evT_or, evT_not, evE_var, evE_non, evE_bl, evE_int, evE_str, evE_op, evE_and, evE_or, evE_not, evE_ite, evE_tup, evE_lst, fin0, fin1, fin2, fin3, evE_dsp, evE_call, evE_mut, evE_lc, evE_lc2, evE_dc, evL_nil, evL_pk, evL_lnt, evL_var, evL_non, evL_bl, evL_int, evL_str, evL_op, evL_tup, evL_lst, evL_call, evL_lc, evL_lc2, evL_dc, evL_ite, evL_and, evL_or, evL_not, bind_ok, ofE_ok, ofO_some, next_nx, next_ret, rdS_0, rdS_s, Option.isSome_some, if_true, Bool.false_eq_true, if_false, lnts, callO, back, endF, readAll, Option.map_some, Option.bind_some, List.set_cons_zero, List.set_cons_succ, asgT, Dt.truthy, e_catL (tp w :: (rots w).map tp) ((rots w.reverse).map tp) (by rw [List.length_cons, rots_len, rots_len]; simp; omega)]
    rw [List.map_append]
    rfl
  rw [run__law_least]
  unfold b__law_least
  simp only [evS_seq, evS_skip, evS_frz, evS_set, evS_exp, evS_ret, evS_ite, evS_par, evS_putS, evS_putA, evS_for, evT_op, evT_call, evT_var, evT_bl, evT_and, evT_or, evT_not, evE_var, evE_non, evE_bl, evE_int, evE_str, evE_op, evE_and, evE_or, evE_not, evE_ite, evE_tup, evE_lst, fin0, fin1, fin2, fin3, evE_dsp, evE_call, evE_mut, evE_lc, evE_lc2, evE_dc, evL_nil, evL_pk, evL_lnt, evL_var, evL_non, evL_bl, evL_int, evL_str, evL_op, evL_tup, evL_lst, evL_call, evL_lc, evL_lc2, evL_dc, evL_ite, evL_and, evL_or, evL_not, bind_ok, ofE_ok, ofO_some, next_nx, next_ret, rdS_0, rdS_s, Option.isSome_some, if_true, Bool.false_eq_true, if_false, lnts, callO, back, endF, readAll, Option.map_some, Option.bind_some, List.set_cons_zero, List.set_cons_succ, asgT, Dt.truthy, e_rev, items1, itemsF, Dt.listOf]
  simp only [forLoop, s1, s2]
  simp only [evS_seq, evS_skip, evS_frz, evS_set, evS_exp, evS_ret, evS_ite, evS_par, evS_putS, evS_putA, evS_for, evT_op, evT_call, evT_var, evT_bl, evT_and, evT_or, evT_not, evE_var, evE_non, evE_bl, evE_int, evE_str, evE_op, evE_and, evE_or, evE_not, evE_ite, evE_tup, evE_lst, fin0, fin1, fin2, fin3, evE_dsp, evE_call, evE_mut, evE_lc, evE_lc2, evE_dc, evL_nil, evL_pk, evL_lnt, evL_var, evL_non, evL_bl, evL_int, evL_str, evL_op, evL_tup, evL_lst, evL_call, evL_lc, evL_lc2, evL_dc, evL_ite, evL_and, evL_or, evL_not, bind_ok, ofE_ok, ofO_some, next_nx, next_ret, rdS_0, rdS_s, Option.isSome_some, if_true, Bool.false_eq_true, if_false, lnts, callO, back, endF, readAll, Option.map_some, Option.bind_some, List.set_cons_zero, List.set_cons_succ, asgT, Dt.truthy, e_min]
theorem f_least_round (k n : Nat) (w : List Int) (h : W2 n w) : Dt.run P0 0 (k + 7) 17 [.int n, tp w] = .ret (tp (mn w (rounds w))) [] := by
  rw [run_least_round]
  unfold b_least_round
  simp only [evS_seq, evS_skip, evS_frz, evS_set, evS_exp, evS_ret, evS_ite, evS_par, evS_putS, evS_putA, evS_for, evT_op, evT_call, evT_var, evT_bl, evT_and, evT_or, evT_not, evE_var, evE_non, evE_bl, evE_int, evE_str, evE_op, evE_and, evE_or, evE_not, evE_ite, evE_tup, evE_lst, fin0, fin1, fin2, fin3, evE_dsp, evE_call, evE_mut, evE_lc, evE_lc2, evE_dc, evL_nil, evL_pk, evL_lnt, evL_var, evL_non, evL_bl, evL_int, evL_str, evL_op, evL_tup, evL_lst, evL_call, evL_lc, evL_lc2, evL_dc, evL_ite, evL_and, evL_or, evL_not, bind_ok, ofE_ok, ofO_some, next_nx, next_ret, rdS_0, rdS_s, Option.isSome_some, if_true, Bool.false_eq_true, if_false, lnts, callO, back, endF, readAll, Option.map_some, Option.bind_some, List.set_cons_zero, List.set_cons_succ, asgT, Dt.truthy, f_need_chords k n w h, f_round_in (k + 5) w h.short]
end K36
end
section
set_option Elab.async false
set_option linter.all false
set_option maxRecDepth 100000
set_option maxHeartbeats 4000000
namespace K36
open PySem Dt
abbrev altB (r : List Bool) : Bool := (r.zip (r.drop 1)).all fun p => !decide (p.1 = p.2)
theorem four (l : List Bool) (h : l.length = 4) : ∃ x y z t, l = [x, y, z, t] := by
  match l, h with
  | [x, y, z, t], _ => exact ⟨x, y, z, t, rfl⟩
theorem altB_rot {l : List Bool} (h : l.length = 4) (c : l.count true = 2) (j : Nat) : altB (l.drop j ++ l.take j) = altB l := by
  obtain ⟨x, y, z, t, rfl⟩ := four l h
  match j with
  | 0 => simp
  | 1 => revert c; revert x y z t; decide
  | 2 => revert c; revert x y z t; decide
  | 3 => revert c; revert x y z t; decide
  | j + 4 => simp
theorem altB_rev {l : List Bool} (h : l.length = 4) : altB l.reverse = altB l := by
  obtain ⟨x, y, z, t, rfl⟩ := four l h
  revert x y z t; decide
theorem zip_B {a b : Int} (ab : a ≠ b) : ∀ (r s : List Int), (∀ x ∈ r, x = a ∨ x = b) → (∀ x ∈ s, x = a ∨ x = b) → ((r.zip s).all fun p => !decide (p.1 = p.2)) = (((r.map fun x => decide (x = a)).zip (s.map fun x => decide (x = a))).all fun p => !decide (p.1 = p.2))
  | [], _, _, _ => by simp
  | _ :: _, [], _, _ => by simp
  | x :: r, y :: s, h, g => by
    rw [List.zip_cons_cons, List.map_cons, List.map_cons, List.zip_cons_cons, List.all_cons, List.all_cons, zip_B ab r s (fun x hx => h x (List.mem_cons_of_mem _ hx)) (fun x hx => g x (List.mem_cons_of_mem _ hx))]
    congr 1
    have ba : b ≠ a := fun e => ab e.symm
    rcases h x (List.mem_cons_self ..) with rfl | rfl <;> rcases g y (List.mem_cons_self ..) with rfl | rfl <;> simp [ab, ba]
theorem alt_B {a b : Int} (ab : a ≠ b) {r : List Int} (h : ∀ x ∈ r, x = a ∨ x = b) : alt r = altB (r.map fun x => decide (x = a)) := by
  unfold alt altB
  rw [← List.map_drop]
  exact zip_B ab r (r.drop 1) h fun x hx => h x (List.mem_of_mem_drop hx)
theorem fil_app (u v : List Int) (a b : Int) : fil (u ++ v) a b = fil u a b ++ fil v a b := List.filter_append ..
theorem fil_mem {w : List Int} {a b : Int} : ∀ x ∈ fil w a b, x = a ∨ x = b := fun x hx => by simpa using (List.mem_filter.mp hx).2
theorem fil_cnt {n : Nat} {w : List Int} (h : W2 n w) {a b : Nat} (ha : a < n) (hb : b < n) (ab : a ≠ b) : (fil w a b).length = 4 ∧ ((fil w a b).map fun x => decide (x = (a : Int))).count true = 2 := by
  have c1 : ∀ l : List Int, (fil l a b).length = l.count (a : Int) + l.count (b : Int) := by
    intro l
    induction l with
    | nil => rfl
    | cons x l ih =>
      show (List.filter _ (x :: l)).length = _
      have ih : (List.filter (fun x => decide (x = (a : Int)) || decide (x = (b : Int))) l).length = l.count (a : Int) + l.count (b : Int) := ih
      rw [List.filter_cons, List.count_cons, List.count_cons]
      by_cases e : x = (a : Int)
      · have e2 : x ≠ (b : Int) := by omega
        simp [e, e2, ih]
        have : ¬ ((a : Int) = (b : Int)) := by omega
        simp [this]
        omega
      · by_cases e2 : x = (b : Int)
        · have : ¬ ((b : Int) = (a : Int)) := by omega
          simp [e2, ih, this]
          omega
        · simp [e, e2, ih]
  have c2 : ∀ l : List Int, ((fil l a b).map fun x => decide (x = (a : Int))).count true = l.count (a : Int) := by
    intro l
    induction l with
    | nil => rfl
    | cons x l ih =>
      have ih : ((List.filter (fun x => decide (x = (a : Int)) || decide (x = (b : Int))) l).map fun x => decide (x = (a : Int))).count true = l.count (a : Int) := ih
      show ((List.filter (fun x => decide (x = (a : Int)) || decide (x = (b : Int))) (x :: l)).map fun x => decide (x = (a : Int))).count true = _
      rw [List.filter_cons, List.count_cons]
      by_cases e : x = (a : Int)
      · simp [e, ih]
      · by_cases e2 : x = (b : Int)
        · have : ¬ ((b : Int) = (a : Int)) := by omega
          simp [e2, ih, this]
        · simp [e, e2, ih]
  rw [c1, c2, h.cnt a ha, h.cnt b hb]
  exact ⟨rfl, rfl⟩
theorem alt_rot {n : Nat} {w : List Int} (h : W2 n w) {a b : Nat} (ha : a < n) (hb : b < n) (ab : a ≠ b) (j : Nat) : alt (fil (rot j w) a b) = alt (fil w a b) := by
  have ab' : (a : Int) ≠ b := by omega
  obtain ⟨h1, h2⟩ := fil_cnt h ha hb ab
  rw [alt_B ab' fil_mem, alt_B ab' fil_mem]
  have e : fil w a b = fil (w.take j) a b ++ fil (w.drop j) a b := by rw [← fil_app, List.take_append_drop]
  have e2 : fil (rot j w) a b = (fil w a b).drop (fil (w.take j) a b).length ++ (fil w a b).take (fil (w.take j) a b).length := by
    rw [fil_app, e]
    simp
  rw [e2, List.map_append, List.map_drop, List.map_take]
  exact altB_rot (by rw [List.length_map]; exact h1) h2 _
theorem alt_rev {n : Nat} {w : List Int} (h : W2 n w) {a b : Nat} (ha : a < n) (hb : b < n) (ab : a ≠ b) : alt (fil w.reverse a b) = alt (fil w a b) := by
  have ab' : (a : Int) ≠ b := by omega
  obtain ⟨h1, h2⟩ := fil_cnt h ha hb ab
  rw [alt_B ab' fil_mem, alt_B ab' fil_mem]
  rw [show fil w.reverse a b = (fil w a b).reverse from List.filter_reverse .., List.map_reverse]
  exact altB_rev (by rw [List.length_map]; exact h1)
end K36
end
section
set_option Elab.async false
set_option linter.all false
set_option maxRecDepth 100000
set_option maxHeartbeats 4000000
namespace K36
open PySem Dt
theorem pairs_eq {n : Nat} {w v : List Int} (h : ∀ a b : Nat, a < n → b < n → a ≠ b → alt (fil v a b) = alt (fil w a b)) : pairs n v = pairs n w := by
  unfold pairs
  rw [List.flatMap_def, List.flatMap_def]
  congr 1
  refine List.map_congr_left fun d hd => ?_
  obtain ⟨a, rfl, a1, a2⟩ := rg_mem hd
  show PR n v a = PR n w a
  unfold PR
  congr 1
  refine List.filter_congr fun d hd => ?_
  obtain ⟨b, rfl, b1, b2⟩ := rg_mem hd
  show alt (fil v a b) = alt (fil w a b)
  obtain ⟨i, rfl⟩ : ∃ i : Nat, a = i := ⟨a.toNat, by omega⟩
  obtain ⟨j, rfl⟩ : ∃ j : Nat, b = j := ⟨b.toNat, by omega⟩
  exact h i j (by omega) (by omega) (by omega)
theorem pairs_rot {n : Nat} {w : List Int} (h : W2 n w) (j : Nat) : pairs n (rot j w) = pairs n w := pairs_eq fun a b ha hb ab => alt_rot h ha hb ab j
theorem pairs_rev {n : Nat} {w : List Int} (h : W2 n w) : pairs n w.reverse = pairs n w := pairs_eq fun a b ha hb ab => alt_rev h ha hb ab
theorem W2.rot {n : Nat} {w : List Int} (h : W2 n w) (j : Nat) : W2 n (rot j w) := h.perm (rot_perm j w).symm
theorem W2.rev {n : Nat} {w : List Int} (h : W2 n w) : W2 n w.reverse := h.perm (List.reverse_perm w).symm
/-! ### the set of the rounds -/
/-- v is a turning of w -/
def Tn (w v : List Int) : Prop := ∃ A B, w = A ++ B ∧ v = B ++ A
theorem Tn.refl (w : List Int) : Tn w w := ⟨[], w, rfl, by simp⟩
theorem Tn.symm {w v : List Int} (h : Tn w v) : Tn v w := by
  obtain ⟨A, B, h1, h2⟩ := h
  exact ⟨B, A, h2, h1⟩
theorem Tn.trans {w v u : List Int} (h : Tn w v) (g : Tn v u) : Tn w u := by
  obtain ⟨A, B, h1, h2⟩ := h
  obtain ⟨C, D, g1, g2⟩ := g
  subst h1 g2
  rw [h2] at g1
  rcases List.append_eq_append_iff.mp g1 with ⟨x, e1, e2⟩ | ⟨x, e1, e2⟩
  · subst e1 e2
    exact ⟨x, D ++ B, by simp, by simp⟩
  · subst e1 e2
    exact ⟨A ++ C, x, by simp, by simp⟩
theorem Tn.rev {w v : List Int} (h : Tn w v) : Tn w.reverse v.reverse := by
  obtain ⟨A, B, rfl, rfl⟩ := h
  exact ⟨B.reverse, A.reverse, by simp, by simp⟩
theorem Tn.rot (w : List Int) (j : Nat) : Tn w (K36.rot j w) := ⟨w.take j, w.drop j, (List.take_append_drop ..).symm, rfl⟩
theorem rots_iff {w v : List Int} (hw : w ≠ []) : v ∈ rots w ↔ Tn w v := by
  constructor
  · intro h
    obtain ⟨j, _, rfl⟩ := List.mem_map.mp h
    exact Tn.rot w j
  · rintro ⟨A, B, rfl, rfl⟩
    by_cases q : B = []
    · subst q
      refine List.mem_map.mpr ⟨0, List.mem_range.mpr (List.length_pos_iff.mpr hw), ?_⟩
      show List.drop 0 _ ++ List.take 0 _ = _
      simp
    · refine List.mem_map.mpr ⟨A.length, List.mem_range.mpr ?_, ?_⟩
      · have := List.length_pos_iff.mpr q
        rw [List.length_append]
        omega
      · show List.drop _ _ ++ List.take _ _ = _
        simp
theorem rounds_iff {w v : List Int} (hw : w ≠ []) : v ∈ w :: rounds w ↔ (Tn w v ∨ Tn w.reverse v) := by
  rw [List.mem_cons, List.mem_append, rots_iff hw, rots_iff (by simpa using hw)]
  constructor
  · rintro (rfl | h)
    · exact .inl (Tn.refl _)
    · exact h
  · exact .inr
theorem rounds_nil : rounds [] = [] := rfl
/-- the least round of a turned word, of a turned and reversed word -/
theorem mn_tn {w v : List Int} (h : Tn w v ∨ Tn w.reverse v) : mn v (rounds v) = mn w (rounds w) := by
  by_cases hw : w = []
  · subst hw
    have : v = [] := by
      rcases h with ⟨A, B, h1, h2⟩ | ⟨A, B, h1, h2⟩
      · have := List.append_eq_nil_iff.mp h1.symm
        rw [h2, this.1, this.2]; rfl
      · have := List.append_eq_nil_iff.mp h1.symm
        rw [h2, this.1, this.2]; rfl
    rw [this]
  · have hv : v ≠ [] := by
      rintro rfl
      apply hw
      rcases h with ⟨A, B, h1, h2⟩ | ⟨A, B, h1, h2⟩
      · have := List.append_eq_nil_iff.mp h2.symm
        rw [h1, this.1, this.2]; rfl
      · have := List.append_eq_nil_iff.mp h2.symm
        rw [this.1, this.2] at h1
        simpa using h1
    refine mn_set fun z => ?_
    rw [rounds_iff hv, rounds_iff hw]
    rcases h with h | h
    · constructor
      · rintro (g | g)
        · exact .inl (h.trans g)
        · exact .inr (h.rev.trans g)
      · rintro (g | g)
        · exact .inl (h.symm.trans g)
        · exact .inr (h.rev.symm.trans g)
    · have h' : Tn w v.reverse := by simpa using h.rev
      constructor
      · rintro (g | g)
        · exact .inr (h.trans g)
        · exact .inl (h'.trans g)
      · rintro (g | g)
        · exact .inr (h'.symm.trans g)
        · exact .inl (h.symm.trans g)
theorem mn_in {w : List Int} (hw : w ≠ []) : Tn w (mn w (rounds w)) ∨ Tn w.reverse (mn w (rounds w)) := (rounds_iff hw).mp (mn_spec (rounds w) w).1
end K36
end
section
set_option Elab.async false
set_option linter.all false
set_option maxRecDepth 100000
set_option maxHeartbeats 4000000
namespace K36
open PySem Dt
theorem sh_int {i : Int} (h1 : 0 ≤ i) (h2 : i ≤ 12) : (PyData.int i).shown.length ≤ 2 ∧ (PyData.int i).showable = true := by
  have k : ∀ m : Fin 13, (PyData.shown (.int (m.val : Int))).length ≤ 2 ∧ (PyData.int (m.val : Int)).showable = true := by decide +kernel
  have := k ⟨i.toNat, by omega⟩
  rw [show (((⟨i.toNat, by omega⟩ : Fin 13).val : Nat) : Int) = i by simp; omega] at this
  exact this
theorem sh_all {c : Nat} : ∀ (xs : List D), (∀ d ∈ xs, d.shown.length ≤ c ∧ d.showable = true) → ((PyData.shownAll xs).map (·.length)).sum ≤ c * xs.length ∧ (PyData.shownAll xs).length = xs.length ∧ PyData.showableAll xs = true
  | [], _ => ⟨by simp [PyData.shownAll], rfl, rfl⟩
  | x :: xs, h => by
    obtain ⟨a1, a2⟩ := h x (List.mem_cons_self ..)
    obtain ⟨h1, h2, h3⟩ := sh_all xs fun d hd => h d (List.mem_cons_of_mem _ hd)
    refine ⟨?_, ?_, ?_⟩
    · show x.shown.length + ((PyData.shownAll xs).map (·.length)).sum ≤ _
      rw [List.length_cons, Nat.mul_succ]
      omega
    · show (PyData.shownAll xs).length + 1 = _
      rw [h2, List.length_cons]
    · show (x.showable && PyData.showableAll xs) = true
      rw [a2, h3]
      rfl
theorem sh_tup {c : Nat} {xs : List D} (h : ∀ d ∈ xs, d.shown.length ≤ c ∧ d.showable = true) : (PyData.tuple xs).shown.length ≤ c * xs.length + 2 * xs.length + 3 ∧ (PyData.tuple xs).showable = true := by
  obtain ⟨h1, h2, h3⟩ := sh_all xs h
  refine ⟨?_, h3⟩
  have := PySem.tupleText_len_le (PyData.shownAll xs)
  show (PySem.tupleText (PyData.shownAll xs)).length ≤ _
  rw [h2] at this
  omega
theorem e_repr {d : D} (h1 : okD d = true) (h2 : d.shown.length ≤ 100000) (h3 : d.showable = true) : opR .repr false [d] = some (.str d.shown) := by
  have e : fRepr d = some (.str d.shown) := by
    unfold fRepr
    rw [h1, h3, decide_eq_true (by rw [sl24]; omega)]
    rfl
  show (fRepr d).bind _ = _
  rw [e]
  rfl
theorem r_tp {n : Nat} {w : List Int} (h : W2 n w) : opR .repr false [tp w] = some (.str (tp w).shown) := by
  obtain ⟨h1, h2⟩ := sh_tup (c := 2) (xs := iL w) fun d hd => by
    obtain ⟨x, hx, rfl⟩ := List.mem_map.mp hd
    have := h.mem x hx
    have := h.sm
    exact sh_int (by omega) (by omega)
  rw [List.length_map] at h1
  have := h.short
  exact e_repr (okD_tp w) (by show (PyData.tuple (iL w)).shown.length ≤ _; omega) h2
theorem pairs_mem {n : Nat} {w : List Int} {d : D} (h : d ∈ pairs n w) : ∃ a b : Int, d = tp [a, b] ∧ 0 ≤ a ∧ a < n ∧ 0 ≤ b ∧ b < n := by
  obtain ⟨x, hx, hd⟩ := List.mem_flatMap.mp h
  obtain ⟨a, rfl, a1, a2⟩ := rg_mem hx
  obtain ⟨y, hy, rfl⟩ := List.mem_map.mp hd
  obtain ⟨b, rfl, b1, b2⟩ := rg_mem (List.mem_filter.mp hy).1
  have b1 : a + 1 ≤ b := b1
  exact ⟨a, b, rfl, a1, a2, by omega, b2⟩
theorem okD_tps : ∀ (xs : List D), (∀ d ∈ xs, ∃ u, d = tp u) → PyData.canLayAll0 xs = true ∧ PyData.depthAll xs ≤ 2
  | [], _ => ⟨rfl, by simp [PyData.depthAll]⟩
  | x :: xs, h => by
    obtain ⟨k1, k2⟩ := okD_tps xs fun d hd => h d (List.mem_cons_of_mem _ hd)
    obtain ⟨u, rfl⟩ := h x (List.mem_cons_self ..)
    obtain ⟨h1, h2⟩ := okD_ints u
    refine ⟨?_, ?_⟩
    · show (PyData.canLayAll0 (iL u) && PyData.canLayAll0 xs) = true
      rw [h1, k1]
      rfl
    · show PyData.depthAll (PyData.tuple (iL u) :: xs) ≤ 2
      simp only [PyData.depthAll, PyData.depth]
      omega
theorem r_web {n : Nat} {w : List Int} (hn : n ≤ 12) : opR .repr false [PyData.tuple [.int n, .tuple (pairs n w)]] = some (.str (PyData.tuple [.int n, .tuple (pairs n w)]).shown) := by
  have hp := pairs_len n w hn
  obtain ⟨h1, h2⟩ := sh_tup (c := 20) (xs := pairs n w) fun d hd => by
    obtain ⟨a, b, rfl, a1, a2, b1, b2⟩ := pairs_mem hd
    obtain ⟨z1, z2⟩ := sh_tup (c := 2) (xs := iL [a, b]) fun d hd => by
      obtain ⟨x, hx, rfl⟩ := List.mem_map.mp hd
      rcases List.mem_cons.mp hx with rfl | hx
      · exact sh_int a1 (by omega)
      · rw [List.mem_singleton.mp hx]; exact sh_int b1 (by omega)
    exact ⟨by show (PyData.tuple (iL [a, b])).shown.length ≤ _; simp at z1 ⊢; omega, z2⟩
  obtain ⟨g1, g2⟩ := sh_tup (c := 10000) (xs := [PyData.int n, .tuple (pairs n w)]) fun d hd => by
    rcases List.mem_cons.mp hd with rfl | hd
    · have := sh_int (i := (n : Int)) (by omega) (by omega)
      exact ⟨by omega, this.2⟩
    · rw [List.mem_singleton.mp hd]; exact ⟨by omega, h2⟩
  obtain ⟨k1, k2⟩ := okD_tps (pairs n w) fun d hd => by
    obtain ⟨a, b, rfl, _⟩ := pairs_mem hd
    exact ⟨_, rfl⟩
  have ok : okD (PyData.tuple [.int n, .tuple (pairs n w)]) = true := by
    show ((true && (PyData.canLayAll0 (pairs n w) && true)) && decide (PyData.depth (PyData.tuple [.int n, .tuple (pairs n w)]) ≤ 64)) = true
    rw [k1]
    have : PyData.depth (PyData.tuple [.int n, .tuple (pairs n w)]) ≤ 64 := by
      simp only [PyData.depth, PyData.depthAll]
      omega
    simp [this]
  refine e_repr ok ?_ g2
  simp only [List.length_cons, List.length_nil] at g1
  omega
theorem e_neS {s : Str} (ok : PyData.strOk s = true) : opR .ne false [PyData.str s, .str s] = some (.bool false) := by
  unfold opR
  have e : opF .ne [PyData.str s, .str s] = some (.bool false) := by
    show (dBool ((if okD (.str s) && okD (.str s) then some (PyData.eqv (.str s) (.str s)) else none).map not)) = _
    rw [show okD (PyData.str s) = true by simp [okD, SeqAt.shaped, PyData.canLay0, PyData.depth, ok]]
    simp [PyData.eqv, dBool]
  rw [e]
  simp only [Option.bind_some, Bool.false_eq_true, if_false]
end K36
end
section
set_option Elab.async false
set_option linter.all false
set_option maxRecDepth 100000
set_option maxHeartbeats 4000000
namespace K36
open PySem Dt
theorem so_app {a b : Str} (h : PyData.strOk a = true) (g : PyData.strOk b = true) : PyData.strOk (a ++ b) = true := by
  unfold PyData.strOk at *
  rw [Str.cps_append, Array.all_append, h, g]
  rfl
theorem so_join {s : Str} (hs : PyData.strOk s = true) : ∀ ts : List Str, (∀ t ∈ ts, PyData.strOk t = true) → PyData.strOk (Str.join s ts) = true
  | [], _ => by rw [show Str.join s [] = Str.empty by rw [Str.join]]; decide +kernel
  | [x], h => h x (List.mem_cons_self ..)
  | x :: y :: r, h => by
    show PyData.strOk (x ++ s ++ Str.join s (y :: r)) = true
    exact so_app (so_app (h x (List.mem_cons_self ..)) hs) (so_join hs (y :: r) fun t ht => h t (List.mem_cons_of_mem _ ht))
theorem so_tup {ts : List Str} (h : ∀ t ∈ ts, PyData.strOk t = true) : PyData.strOk (tupleText ts) = true := by
  unfold tupleText
  refine so_app (so_app (by decide +kernel) (so_join (by decide +kernel) ts h)) ?_
  split <;> decide +kernel
theorem shA_mem : ∀ {xs : List D} {t : Str}, t ∈ PyData.shownAll xs → ∃ d ∈ xs, t = d.shown
  | [], t, h => nomatch h
  | x :: xs, t, h => by
    rcases List.mem_cons.mp h with rfl | h
    · exact ⟨x, List.mem_cons_self .., rfl⟩
    · obtain ⟨d, h1, h2⟩ := shA_mem h
      exact ⟨d, List.mem_cons_of_mem _ h1, h2⟩
theorem so_tupD {xs : List D} (h : ∀ d ∈ xs, PyData.strOk d.shown = true) : PyData.strOk (PyData.tuple xs).shown = true := by
  show PyData.strOk (tupleText (PyData.shownAll xs)) = true
  refine so_tup fun t ht => ?_
  obtain ⟨d, hd, rfl⟩ := shA_mem ht
  exact h d hd
theorem so_int {i : Int} (h1 : 0 ≤ i) (h2 : i ≤ 12) : PyData.strOk (PyData.int i).shown = true := by
  have k : ∀ m : Fin 13, PyData.strOk (PyData.shown (.int (m.val : Int))) = true := by decide +kernel
  have := k ⟨i.toNat, by omega⟩
  rw [show (((⟨i.toNat, by omega⟩ : Fin 13).val : Nat) : Int) = i by simp; omega] at this
  exact this
theorem so_tp {n : Nat} {w : List Int} (h : W2 n w) : PyData.strOk (tp w).shown = true := so_tupD fun d hd => by
  obtain ⟨x, hx, rfl⟩ := List.mem_map.mp hd
  have := h.mem x hx
  have := h.sm
  exact so_int (by omega) (by omega)
theorem so_web {n : Nat} {w : List Int} (hn : n ≤ 12) : PyData.strOk (PyData.tuple [.int n, .tuple (pairs n w)]).shown = true := so_tupD fun d hd => by
  rcases List.mem_cons.mp hd with rfl | hd
  · exact so_int (by omega) (by omega)
  · rw [List.mem_singleton.mp hd]
    refine so_tupD fun d hd => ?_
    obtain ⟨a, b, rfl, a1, a2, b1, b2⟩ := pairs_mem hd
    refine so_tupD fun d hd => ?_
    obtain ⟨x, hx, rfl⟩ := List.mem_map.mp hd
    rcases List.mem_cons.mp hx with rfl | hx
    · exact so_int a1 (by omega)
    · rw [List.mem_singleton.mp hx]; exact so_int b1 (by omega)
end K36
end
section
set_option Elab.async false
set_option linter.all false
set_option maxRecDepth 100000
set_option maxHeartbeats 4000000
namespace K36
open PySem Dt
abbrev web (n : Nat) (w : List Int) : D := .tuple [.int n, .tuple (pairs n w)]
abbrev due (w : List Int) : D := tp (mn w (rounds w))
def bCmp : S := (.seq (.ite (.or (.op .ne false (.cons (.op .repr false (.cons (.call 17 (.cons (.var 3) (.cons (.var 9) .nil))) .nil)) (.cons (.op .repr false (.cons (.pk 5) .nil)) .nil))) (.op .ne false (.cons (.op .repr false (.cons (.call 9 (.cons (.var 3) (.cons (.var 9) .nil))) .nil)) (.cons (.op .repr false (.cons (.pk 6) .nil)) .nil)))) (.seq (.ret (.bl false)) .skip) .skip) .skip)
theorem W2_due {n : Nat} {w : List Int} (h : W2 n w) : W2 n (mn w (rounds w)) := by
  by_cases hw : w = []
  · subst hw; exact h
  · have pm : ∀ {u v : List Int}, Tn u v → u.Perm v := by
      rintro u v ⟨A, B, rfl, rfl⟩
      exact List.perm_append_comm
    rcases mn_in hw with t | t
    · exact h.perm (pm t)
    · exact h.perm ((List.reverse_perm w).symm.trans (pm t))
/-- one look -/
theorem s_cmp (k n : Nat) {w v : List Int} (h : W2 n w) (hv : W2 n v) (t : Tn w v ∨ Tn w.reverse v) (hp : pairs n v = pairs n w) (s0 s1 s2 s7 s8 s9 : Option D) :
    forF ⟨Dt.run P0 0 (k + 7), 0, P0.sub⟩ (.v 9) bCmp (tp v) [s0, s1, s2, some (.int n), some (tp w), some (due w), some (web n w), s7, s8, s9] = .nx [s0, s1, s2, some (.int n), some (tp w), some (due w), some (web n w), s7, s8, some (tp v)] := by
  have e1 := f_least_round k n v hv
  rw [mn_tn t] at e1
  have e2 := f_web_told (k + 1) n v hv
  rw [hp] at e2
  have hd := W2_due h
  have r1 := r_tp hd
  have r2 := r_web (w := w) h.sm
  have n1 := e_neS (so_tp hd)
  have n2 := e_neS (so_web (w := w) h.sm)
  unfold forF bCmp
  simp only [evS_seq, evS_skip, evS_frz, evS_set, evS_exp, evS_ret, evS_ite, evS_par, evS_putS, evS_putA, evS_for, evT_op, evT_call, evT_var, evT_bl, evT_and, evT_or, evT_not, evE_var, evE_non, evE_bl, evE_int, evE_str, evE_op, evE_and, evE_or, evE_not, evE_ite, evE_tup, evE_lst, fin0, fin1, fin2, fin3, evE_dsp, evE_call, evE_mut, evE_lc, evE_lc2, evE_dc, evL_nil, evL_pk, evL_lnt, evL_var, evL_non, evL_bl, evL_int, evL_str, evL_op, evL_tup, evL_lst, evL_call, evL_lc, evL_lc2, evL_dc, evL_ite, evL_and, evL_or, evL_not, bind_ok, ofE_ok, ofO_some, next_nx, next_ret, rdS_0, rdS_s, Option.isSome_some, if_true, Bool.false_eq_true, if_false, lnts, callO, back, endF, readAll, Option.map_some, Option.bind_some, List.set_cons_zero, List.set_cons_succ, asgT, Dt.truthy, e1, e2, r1, r2, n1, n2]
end K36
end
section
set_option Elab.async false
set_option linter.all false
set_option maxRecDepth 100000
set_option maxHeartbeats 4000000
namespace K36
open PySem Dt
def bBy : S := (.seq (.set 8 (.call 13 (.cons (.var 3) (.cons (.var 4) (.cons (.var 7) .nil))))) (.seq (.for (.v 9) .seq (.cons (.lst .F (.cons (.var 8) (.cons (.call 12 (.cons (.var 3) (.cons (.var 8) .nil))) .nil))) .nil) bCmp) .skip))
/-- one amount of turning -/
theorem s_by (k n : Nat) {w : List Int} (h : W2 n w) (b : Nat) (s0 s1 s2 s7 s8 s9 : Option D) :
    ∃ s8' s9', forF ⟨Dt.run P0 0 (k + 7), 0, P0.sub⟩ (.v 7) bBy (.int b) [s0, s1, s2, some (.int n), some (tp w), some (due w), some (web n w), s7, s8, s9] = .nx [s0, s1, s2, some (.int n), some (tp w), some (due w), some (web n w), some (.int b), s8', s9'] := by
  have e1 := f_gone_round (k + 1) n w b h
  generalize hv : rot (b % w.length) w = v at e1
  have hW : W2 n v := by rw [← hv]; exact h.rot _
  have t1 : Tn w v := by rw [← hv]; exact Tn.rot w _
  have p1 : pairs n v = pairs n w := by rw [← hv]; exact pairs_rot h _
  have e2 := f_turned_word (k + 1) n v hW
  have c1 := s_cmp k n h hW (.inl t1) p1 s0 s1 s2 (some (.int b)) (some (tp v)) s9
  have c2 := s_cmp k n h hW.rev (.inr t1.rev) ((pairs_rev hW).trans p1) s0 s1 s2 (some (.int b)) (some (tp v)) (some (tp v))
  refine ⟨some (tp v), some (tp v.reverse), ?_⟩
  unfold forF bBy
  simp only [evS_seq, evS_skip, evS_frz, evS_set, evS_exp, evS_ret, evS_ite, evS_par, evS_putS, evS_putA, evS_for, evT_op, evT_call, evT_var, evT_bl, evT_and, evT_or, evT_not, evE_var, evE_non, evE_bl, evE_int, evE_str, evE_op, evE_and, evE_or, evE_not, evE_ite, evE_tup, evE_lst, fin0, fin1, fin2, fin3, evE_dsp, evE_call, evE_mut, evE_lc, evE_lc2, evE_dc, evL_nil, evL_pk, evL_lnt, evL_var, evL_non, evL_bl, evL_int, evL_str, evL_op, evL_tup, evL_lst, evL_call, evL_lc, evL_lc2, evL_dc, evL_ite, evL_and, evL_or, evL_not, bind_ok, ofE_ok, ofO_some, next_nx, next_ret, rdS_0, rdS_s, Option.isSome_some, if_true, Bool.false_eq_true, if_false, lnts, callO, back, endF, readAll, Option.map_some, Option.bind_some, List.set_cons_zero, List.set_cons_succ, asgT, Dt.truthy, e1, e2, items1, itemsF, Dt.listOf]
  simp only [forLoop, c1, c2]
  simp only [evS_seq, evS_skip, evS_frz, evS_set, evS_exp, evS_ret, evS_ite, evS_par, evS_putS, evS_putA, evS_for, evT_op, evT_call, evT_var, evT_bl, evT_and, evT_or, evT_not, evE_var, evE_non, evE_bl, evE_int, evE_str, evE_op, evE_and, evE_or, evE_not, evE_ite, evE_tup, evE_lst, fin0, fin1, fin2, fin3, evE_dsp, evE_call, evE_mut, evE_lc, evE_lc2, evE_dc, evL_nil, evL_pk, evL_lnt, evL_var, evL_non, evL_bl, evL_int, evL_str, evL_op, evL_tup, evL_lst, evL_call, evL_lc, evL_lc2, evL_dc, evL_ite, evL_and, evL_or, evL_not, bind_ok, ofE_ok, ofO_some, next_nx, next_ret, rdS_0, rdS_s, Option.isSome_some, if_true, Bool.false_eq_true, if_false, lnts, callO, back, endF, readAll, Option.map_some, Option.bind_some, List.set_cons_zero, List.set_cons_succ, asgT, Dt.truthy]
end K36
end
section
set_option Elab.async false
set_option linter.all false
set_option maxRecDepth 100000
set_option maxHeartbeats 4000000
namespace K36
open PySem Dt
def bLap : S := (.seq (.set 3 (.call 19 (.cons (.lnt 1) (.cons (.int 13) .nil))))
  (.seq (.set 4 (.call 23 (.cons (.lnt 1) (.cons (.var 3) .nil))))
  (.seq (.par (.cons (.v 5) (.cons (.v 6) .nil)) (.cons (.call 24 (.cons (.var 4) .nil)) (.cons (.call 22 (.cons (.var 3) (.cons (.var 4) .nil))) .nil)))
  (.seq (.for (.v 7) .seq (.cons (.lst .F (.cons (.int 0) (.cons (.int 1) (.cons (.call 19 (.cons (.lnt 1) (.cons (.int 40) .nil))) .nil)))) .nil) bBy)
  (.seq (.ite (.op .ne false (.cons (.op .repr false (.cons (.call 17 (.cons (.var 3) (.cons (.var 5) .nil))) .nil)) (.cons (.op .repr false (.cons (.pk 5) .nil)) .nil)))
  (.seq (.ret (.bl false)) .skip) .skip) .skip)))))
theorem s_lap (k : Nat) {p : D} {c : Int} (g : Gp c p) (hc : c + 400 ≤ 1000000) (d : D) (s0 s2 s3 s4 s5 s6 s7 s8 s9 : Option D) :
    ∃ p' s3' s4' s5' s6' s7' s8' s9', Gp (c + 102) p' ∧ forF ⟨Dt.run P0 0 (k + 7), 0, P0.sub⟩ (.v 2) bLap d [s0, some p, s2, s3, s4, s5, s6, s7, s8, s9] = .nx [s0, some p', some d, s3', s4', s5', s6', s7', s8', s9'] := by
  obtain ⟨m, p1, e1, m1, m2, g1⟩ := f_draw (k + 6) (many := 13) g (by omega) (by decide) (by decide)
  obtain ⟨n, rfl⟩ : ∃ n : Nat, m = n := ⟨m.toNat, by omega⟩
  obtain ⟨w, p2, e2, h, g2⟩ := f_chord (k + 4) n g1 (by omega) (by omega)
  obtain ⟨b, p3, e3, b1, b2, g3⟩ := f_draw (k + 6) (many := 40) g2 (by omega) (by decide) (by decide)
  obtain ⟨b, rfl⟩ : ∃ n : Nat, b = n := ⟨b.toNat, by omega⟩
  have e4 := f_lleast (k + 6) w h.short
  have e5 := f_ltold (k + 5) n w (by have := h.short; omega) h.sm
  obtain ⟨a8, a9, c0⟩ := s_by k n h 0 s0 (some p3) (some d) s7 s8 s9
  obtain ⟨x8, x9, c1⟩ := s_by k n h 1 s0 (some p3) (some d) (some (.int (0 : Nat))) a8 a9
  obtain ⟨y8, y9, c2⟩ := s_by k n h b s0 (some p3) (some d) (some (.int (1 : Nat))) x8 x9
  have hd := W2_due h
  have e6 := f_least_round k n _ hd
  have e7 : mn (mn w (rounds w)) (rounds (mn w (rounds w))) = mn w (rounds w) := by
    by_cases hw : w = []
    · subst hw; rfl
    · exact mn_tn (mn_in hw)
  rw [e7] at e6
  have r1 := r_tp hd
  have n1 := e_neS (so_tp hd)
  refine ⟨p3, some (.int n), some (tp w), some (due w), some (web n w), some (.int b), y8, y9, by rw [show c + 102 = c + 1 + 100 + 1 by omega]; exact g3, ?_⟩
  change forF _ _ bBy (.int 0) _ = _ at c0
  change forF _ _ bBy (.int 1) _ = _ at c1
  unfold forF bLap
  simp only [evS_seq, evS_skip, evS_frz, evS_set, evS_exp, evS_ret, evS_ite, evS_par, evS_putS, evS_putA, evS_for, evT_op, evT_call, evT_var, evT_bl, evT_and, evT_or, evT_not, evE_var, evE_non, evE_bl, evE_int, evE_str, evE_op, evE_and, evE_or, evE_not, evE_ite, evE_tup, evE_lst, fin0, fin1, fin2, fin3, evE_dsp, evE_call, evE_mut, evE_lc, evE_lc2, evE_dc, evL_nil, evL_pk, evL_lnt, evL_var, evL_non, evL_bl, evL_int, evL_str, evL_op, evL_tup, evL_lst, evL_call, evL_lc, evL_lc2, evL_dc, evL_ite, evL_and, evL_or, evL_not, bind_ok, ofE_ok, ofO_some, next_nx, next_ret, rdS_0, rdS_s, Option.isSome_some, if_true, Bool.false_eq_true, if_false, lnts, callO, back, endF, readAll, Option.map_some, Option.bind_some, List.set_cons_zero, List.set_cons_succ, asgT, Dt.truthy, e1, e2, e3, e4, e5, items1, itemsF, Dt.listOf]
  simp only [forLoop, c0, c1, c2]
  simp only [evS_seq, evS_skip, evS_frz, evS_set, evS_exp, evS_ret, evS_ite, evS_par, evS_putS, evS_putA, evS_for, evT_op, evT_call, evT_var, evT_bl, evT_and, evT_or, evT_not, evE_var, evE_non, evE_bl, evE_int, evE_str, evE_op, evE_and, evE_or, evE_not, evE_ite, evE_tup, evE_lst, fin0, fin1, fin2, fin3, evE_dsp, evE_call, evE_mut, evE_lc, evE_lc2, evE_dc, evL_nil, evL_pk, evL_lnt, evL_var, evL_non, evL_bl, evL_int, evL_str, evL_op, evL_tup, evL_lst, evL_call, evL_lc, evL_lc2, evL_dc, evL_ite, evL_and, evL_or, evL_not, bind_ok, ofE_ok, ofO_some, next_nx, next_ret, rdS_0, rdS_s, Option.isSome_some, if_true, Bool.false_eq_true, if_false, lnts, callO, back, endF, readAll, Option.map_some, Option.bind_some, List.set_cons_zero, List.set_cons_succ, asgT, Dt.truthy, e6, r1, n1]
theorem law_true (k : Nat) (ns : List Int) (hl : ns.length ≤ 1000) : ∃ ls, Dt.run P0 0 (k + 8) 25 [.list (iL ns)] = .ret (.bool true) ls := by
  obtain ⟨p, e0, g0⟩ := f_pen (k + 6) ns hl
  obtain ⟨p1, a3, a4, a5, a6, a7, a8, a9, g1, c1⟩ := s_lap k g0 (by decide) (.int 0) (some (.list (iL ns))) none none none none none none none none
  obtain ⟨p2, b3, b4, b5, b6, b7, b8, b9, g2, c2⟩ := s_lap k g1 (by decide) (.int 1) (some (.list (iL ns))) (some (.int 0)) a3 a4 a5 a6 a7 a8 a9
  obtain ⟨p3, x3, x4, x5, x6, x7, x8, x9, g3, c3⟩ := s_lap k g2 (by decide) (.int 2) (some (.list (iL ns))) (some (.int 1)) b3 b4 b5 b6 b7 b8 b9
  obtain ⟨p4, y3, y4, y5, y6, y7, y8, y9, g4, c4⟩ := s_lap k g3 (by decide) (.int 3) (some (.list (iL ns))) (some (.int 2)) x3 x4 x5 x6 x7 x8 x9
  have r4 : itR1 (.int 4) = some (rangeD 0 4) := it_r1 4 (by decide)
  have r5 : rangeD 0 4 = [.int 0, .int 1, .int 2, .int 3] := rfl
  refine ⟨[], ?_⟩
  rw [run_law]
  show endF [] (evS _ (.seq _ (.seq (.for _ _ _ bLap) _)) _) = _
  simp only [evS_seq, evS_skip, evS_frz, evS_set, evS_exp, evS_ret, evS_ite, evS_par, evS_putS, evS_putA, evS_for, evT_op, evT_call, evT_var, evT_bl, evT_and, evT_or, evT_not, evE_var, evE_non, evE_bl, evE_int, evE_str, evE_op, evE_and, evE_or, evE_not, evE_ite, evE_tup, evE_lst, fin0, fin1, fin2, fin3, evE_dsp, evE_call, evE_mut, evE_lc, evE_lc2, evE_dc, evL_nil, evL_pk, evL_lnt, evL_var, evL_non, evL_bl, evL_int, evL_str, evL_op, evL_tup, evL_lst, evL_call, evL_lc, evL_lc2, evL_dc, evL_ite, evL_and, evL_or, evL_not, bind_ok, ofE_ok, ofO_some, next_nx, next_ret, rdS_0, rdS_s, Option.isSome_some, if_true, Bool.false_eq_true, if_false, lnts, callO, back, endF, readAll, Option.map_some, Option.bind_some, List.set_cons_zero, List.set_cons_succ, asgT, Dt.truthy, e0, items1, itemsF, r4, r5]
  simp only [forLoop, c1, c2, c3, c4]
  simp only [evS_seq, evS_skip, evS_frz, evS_set, evS_exp, evS_ret, evS_ite, evS_par, evS_putS, evS_putA, evS_for, evT_op, evT_call, evT_var, evT_bl, evT_and, evT_or, evT_not, evE_var, evE_non, evE_bl, evE_int, evE_str, evE_op, evE_and, evE_or, evE_not, evE_ite, evE_tup, evE_lst, fin0, fin1, fin2, fin3, evE_dsp, evE_call, evE_mut, evE_lc, evE_lc2, evE_dc, evL_nil, evL_pk, evL_lnt, evL_var, evL_non, evL_bl, evL_int, evL_str, evL_op, evL_tup, evL_lst, evL_call, evL_lc, evL_lc2, evL_dc, evL_ite, evL_and, evL_or, evL_not, bind_ok, ofE_ok, ofO_some, next_nx, next_ret, rdS_0, rdS_s, Option.isSome_some, if_true, Bool.false_eq_true, if_false, lnts, callO, back, endF, readAll, Option.map_some, Option.bind_some, List.set_cons_zero, List.set_cons_succ, asgT, Dt.truthy]
end K36
end
section
set_option Elab.async false
theorem PySem.Challenge.cw_turnabouts_k36_whole_least_rounds_holds : PySem.Challenge.rw_turnabouts_k36_whole_least_rounds.Holds :=
  K36.holds fun ns h => K36.law_true 12 ns (by omega)
end
