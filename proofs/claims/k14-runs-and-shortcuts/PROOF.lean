import PyProof.Rows.All
import Wide.All
import OpenK.AllK
import Wide.FinOn
import HandS.ForMost
import HandS.ForExc
import KE.SortData
import KE.DatumOrd
import KE.DataMinMax
import PyProof.SeqIndex
import HandS.TupAny
import HandS.Style
import HandS.IsInst
import HandS.Deep
import KE.DatumIndex
import HandS.WordsDict
import HandS.TupLen
import HandS.SortRule
import HandS.Conv
import HandS.More
import KE.DataFind
import HandS.Zip
import HandS.DictComp
import HandS.Codes
import KE.GoesMore
import HandS.Small
import KE.KStateDown
import HandS.Defaults
import HandS.Head0
import HandS.Head1
import HandS.Head2
import HandS.HeadEnd
import HandS.HeadHook1
import HandS.HeadHook2
import HandS.HeadHook3
import HandS.HeadHook4
import PySem.Challenge.RW_turnabouts_k14_runs_and_shortcuts_judged
section
set_option Elab.async false
set_option linter.all false
set_option maxRecDepth 100000
set_option maxHeartbeats 2000000
/-! Roots: values of the abstract heap that stand for pure data, each with a mode (F: never written again; O m: owned by its root alone, its children of the mode m). -/
namespace Dt
open PySem PySem.Spec PyProof.Rows L2

abbrev D := PyData
/-- how a root holds its object -/
inductive Md where
  | F
  | O (m : Md)
  deriving DecidableEq, Repr
def kD : Key → D
  | .inl i => .int i
  | .inr x => .str x
def eK (p : Key × V) : D × V := (kD p.1, p.2)
def eT (p : List Key × V) : D × V := (.tuple (p.1.map kD), p.2)
/-- an object that no rule writes -/
def imm : HO → Bool
  | .tup _ => true
  | .frz _ _ => true
  | _ => false
def FL (H : Hp) (Z : Addr → Prop) (a : Addr) (xs : List V) : Prop := (Z a ∧ H a = some (.lst xs)) ∨ ∃ o, H a = some (.frz o (.lst xs))
/-- a tuple whose object bears no dict -/
def TupAt (H : Hp) (a : Addr) (xs : List V) : Prop := ∃ o : Obj, o.dict = none ∧ H a = some (.frz o (.tup xs))
mutual
inductive Rd (H : Hp) (Z : Addr → Prop) : V → D → Prop
  | non : Rd H Z .non .none
  | bl (b : Bool) : Rd H Z (.bl b) (.bool b)
  | int (i : Int) : Rd H Z (.int i) (.int i)
  | str (x : Str) : Rd H Z (.str x) (.str x)
  | lst {a : Addr} {xs : List V} {ds : List D} : FL H Z a xs → RdA H Z xs ds → Rd H Z (.ref a) (.list ds)
  | tup {a : Addr} {xs : List V} {ds : List D} : TupAt H a xs → RdA H Z xs ds → Rd H Z (.ref a) (.tuple ds)
  | dK {a : Addr} {kvs : List (Key × V)} {es : List (D × D)} : Z a → H a = some (.dK kvs) → RdE H Z (kvs.map eK) es → Rd H Z (.ref a) (.dict es)
  | dT {a : Addr} {kvs : List (List Key × V)} {es : List (D × D)} : Z a → kvs ≠ [] → H a = some (.dT kvs) → RdE H Z (kvs.map eT) es → Rd H Z (.ref a) (.dict es)
inductive RdA (H : Hp) (Z : Addr → Prop) : List V → List D → Prop
  | nil : RdA H Z [] []
  | cons {v : V} {vs : List V} {d : D} {ds : List D} : Rd H Z v d → RdA H Z vs ds → RdA H Z (v :: vs) (d :: ds)
inductive RdE (H : Hp) (Z : Addr → Prop) : List (D × V) → List (D × D) → Prop
  | nil : RdE H Z [] []
  | cons {k : D} {v : V} {vs : List (D × V)} {d : D} {ds : List (D × D)} : Rd H Z v d → RdE H Z vs ds → RdE H Z ((k, v) :: vs) ((k, d) :: ds)
end
/-- lists of children, footprints joined -/
inductive OwnA (P : V → D → List Addr → Prop) : List V → List D → List Addr → Prop
  | nil : OwnA P [] [] []
  | cons {v : V} {vs : List V} {d : D} {ds : List D} {f g : List Addr} : P v d f → OwnA P vs ds g → OwnA P (v :: vs) (d :: ds) (f ++ g)
inductive OwnE (P : V → D → List Addr → Prop) : List (D × V) → List (D × D) → List Addr → Prop
  | nil : OwnE P [] [] []
  | cons {k : D} {v : V} {vs : List (D × V)} {d : D} {ds : List (D × D)} {f g : List Addr} : P v d f → OwnE P vs ds g → OwnE P ((k, v) :: vs) ((k, d) :: ds) (f ++ g)
def Own (H : Hp) (Z : Addr → Prop) : Md → V → D → List Addr → Prop
  | .F, v, d, fp => Rd H Z v d ∧ fp = []
  | .O m, v, d, fp => ∃ (a : Addr) (fs : List Addr), v = .ref a ∧ fp = a :: fs ∧
      ((∃ xs ds, H a = some (.lst xs) ∧ d = .list ds ∧ OwnA (Own H Z m) xs ds fs) ∨
       (∃ kvs es, H a = some (.dK kvs) ∧ d = .dict es ∧ OwnE (Own H Z m) (kvs.map eK) es fs) ∨
       (∃ kvs es, kvs ≠ [] ∧ H a = some (.dT kvs) ∧ d = .dict es ∧ OwnE (Own H Z m) (kvs.map eT) es fs))
abbrev Root := V × D × Md
inductive OwnR (H : Hp) (Z : Addr → Prop) : List Root → List Addr → Prop
  | nil : OwnR H Z [] []
  | cons {v : V} {d : D} {m : Md} {rs : List Root} {f g : List Addr} : Own H Z m v d f → OwnR H Z rs g → OwnR H Z ((v, d, m) :: rs) (f ++ g)
/-- Z and fp: what is frozen, what is owned -/
structure RepZ (rs : List Root) (H : Hp) (Z : Addr → Prop) (fp : List Addr) : Prop where
  own : OwnR H Z rs fp
  nd : fp.Nodup
  off : ∀ a ∈ fp, ¬ Z a
  dom : ∀ a, Z a → H a ≠ none
def Rep (rs : List Root) (H : Hp) : Prop := ∃ Z fp, RepZ rs H Z fp

/-! ### stability -/
/-- what is frozen or immutable stays -/
def Ext (Z : Addr → Prop) (H H' : Hp) : Prop := ∀ a o, H a = some o → (Z a ∨ imm o = true) → H' a = some o
mutual
theorem Rd.mono {H H' : Hp} {Z Z' : Addr → Prop} (x : Ext Z H H') (z : ∀ a, Z a → Z' a) : ∀ {v : V} {d : D}, Rd H Z v d → Rd H' Z' v d
  | _, _, .non => .non
  | _, _, .bl b => .bl b
  | _, _, .int i => .int i
  | _, _, .str s => .str s
  | _, _, .lst (.inl ⟨h1, h2⟩) r => .lst (.inl ⟨z _ h1, x _ _ h2 (.inl h1)⟩) (RdA.mono x z r)
  | _, _, .lst (.inr ⟨o, h⟩) r => .lst (.inr ⟨o, x _ _ h (.inr rfl)⟩) (RdA.mono x z r)
  | _, _, .tup ⟨o, n, h⟩ r => .tup ⟨o, n, x _ _ h (.inr rfl)⟩ (RdA.mono x z r)
  | _, _, .dK h1 h2 r => .dK (z _ h1) (x _ _ h2 (.inl h1)) (RdE.mono x z r)
  | _, _, .dT h1 n h2 r => .dT (z _ h1) n (x _ _ h2 (.inl h1)) (RdE.mono x z r)
theorem RdA.mono {H H' : Hp} {Z Z' : Addr → Prop} (x : Ext Z H H') (z : ∀ a, Z a → Z' a) : ∀ {vs : List V} {ds : List D}, RdA H Z vs ds → RdA H' Z' vs ds
  | _, _, .nil => .nil
  | _, _, .cons h t => .cons (Rd.mono x z h) (RdA.mono x z t)
theorem RdE.mono {H H' : Hp} {Z Z' : Addr → Prop} (x : Ext Z H H') (z : ∀ a, Z a → Z' a) : ∀ {vs : List (D × V)} {ds : List (D × D)}, RdE H Z vs ds → RdE H' Z' vs ds
  | _, _, .nil => .nil
  | _, _, .cons h t => .cons (Rd.mono x z h) (RdE.mono x z t)
end
theorem OwnA.imp {P Q : V → D → List Addr → Prop} : ∀ {vs : List V} {ds : List D} {fp : List Addr}, OwnA P vs ds fp → (∀ v d f, P v d f → (∀ a ∈ f, a ∈ fp) → Q v d f) → OwnA Q vs ds fp
  | _, _, _, .nil, _ => .nil
  | _, _, _, .cons h t, k => .cons (k _ _ _ h fun _ m => List.mem_append_left _ m) (OwnA.imp t fun v d f p q => k v d f p fun a m => List.mem_append_right _ (q a m))
theorem OwnE.imp {P Q : V → D → List Addr → Prop} : ∀ {vs : List (D × V)} {ds : List (D × D)} {fp : List Addr}, OwnE P vs ds fp → (∀ v d f, P v d f → (∀ a ∈ f, a ∈ fp) → Q v d f) → OwnE Q vs ds fp
  | _, _, _, .nil, _ => .nil
  | _, _, _, .cons h t, k => .cons (k _ _ _ h fun _ m => List.mem_append_left _ m) (OwnE.imp t fun v d f p q => k v d f p fun a m => List.mem_append_right _ (q a m))
theorem Own.mono {H H' : Hp} {Z Z' : Addr → Prop} (x : Ext Z H H') (z : ∀ a, Z a → Z' a) : ∀ {m : Md} {v : V} {d : D} {fp : List Addr}, Own H Z m v d fp → (∀ a ∈ fp, H' a = H a) → Own H' Z' m v d fp
  | .F, _, _, _, ⟨h, e⟩, _ => ⟨h.mono x z, e⟩
  | .O m, v, d, fp, ⟨a, fs, e1, e2, h⟩, k => by
    subst e2
    have ka := k a (List.mem_cons_self ..)
    have ks : ∀ b ∈ fs, H' b = H b := fun b hb => k b (List.mem_cons_of_mem _ hb)
    refine ⟨a, fs, e1, rfl, ?_⟩
    rcases h with ⟨xs, ds, h1, h2, h3⟩ | ⟨xs, ds, h1, h2, h3⟩ | ⟨xs, ds, n, h1, h2, h3⟩
    · exact .inl ⟨xs, ds, ka.trans h1, h2, h3.imp fun v d f p q => p.mono x z fun b hb => ks b (q b hb)⟩
    · exact .inr (.inl ⟨xs, ds, ka.trans h1, h2, h3.imp fun v d f p q => p.mono x z fun b hb => ks b (q b hb)⟩)
    · exact .inr (.inr ⟨xs, ds, n, ka.trans h1, h2, h3.imp fun v d f p q => p.mono x z fun b hb => ks b (q b hb)⟩)
theorem OwnR.mono {H H' : Hp} {Z Z' : Addr → Prop} (x : Ext Z H H') (z : ∀ a, Z a → Z' a) : ∀ {rs : List Root} {fp : List Addr}, OwnR H Z rs fp → (∀ a ∈ fp, H' a = H a) → OwnR H' Z' rs fp
  | _, _, .nil, _ => .nil
  | _, _, .cons h t, k => .cons (h.mono x z fun a m => k a (List.mem_append_left _ m)) (OwnR.mono x z t fun a m => k a (List.mem_append_right _ m))
/-- what is owned is a list or a dict -/
def mut1 : HO → Bool
  | .lst _ => true
  | .dK _ => true
  | .dT _ => true
  | _ => false
theorem OwnA.mem {P : V → D → List Addr → Prop} {R : Addr → Prop} (k : ∀ v d f, P v d f → ∀ a ∈ f, R a) : ∀ {vs : List V} {ds : List D} {fp : List Addr}, OwnA P vs ds fp → ∀ a ∈ fp, R a
  | _, _, _, .nil => fun _ h => nomatch h
  | _, _, _, .cons h t => fun a m => (List.mem_append.mp m).elim (k _ _ _ h a) (OwnA.mem k t a)
theorem OwnE.mem {P : V → D → List Addr → Prop} {R : Addr → Prop} (k : ∀ v d f, P v d f → ∀ a ∈ f, R a) : ∀ {vs : List (D × V)} {ds : List (D × D)} {fp : List Addr}, OwnE P vs ds fp → ∀ a ∈ fp, R a
  | _, _, _, .nil => fun _ h => nomatch h
  | _, _, _, .cons h t => fun a m => (List.mem_append.mp m).elim (k _ _ _ h a) (OwnE.mem k t a)
theorem Own.at {H : Hp} {Z : Addr → Prop} : ∀ {m : Md} {v : V} {d : D} {fp : List Addr}, Own H Z m v d fp → ∀ a ∈ fp, ∃ o, H a = some o ∧ mut1 o = true
  | .F, _, _, _, ⟨_, e⟩ => fun a h => by subst e; cases h
  | .O m, v, d, fp, ⟨a, fs, e1, e2, h⟩ => fun b hb => by
    subst e2
    rcases List.mem_cons.mp hb with rfl | hb
    · rcases h with ⟨xs, ds, h1, _⟩ | ⟨xs, ds, h1, _⟩ | ⟨xs, ds, _, h1, _⟩ <;> exact ⟨_, h1, rfl⟩
    · rcases h with ⟨xs, ds, h1, h2, h3⟩ | ⟨xs, ds, h1, h2, h3⟩ | ⟨xs, ds, _, h1, h2, h3⟩
      · exact h3.mem (R := fun a => ∃ o, H a = some o ∧ mut1 o = true) (fun v d f p => p.at) b hb
      · exact h3.mem (R := fun a => ∃ o, H a = some o ∧ mut1 o = true) (fun v d f p => p.at) b hb
      · exact h3.mem (R := fun a => ∃ o, H a = some o ∧ mut1 o = true) (fun v d f p => p.at) b hb
theorem OwnR.at {H : Hp} {Z : Addr → Prop} : ∀ {rs : List Root} {fp : List Addr}, OwnR H Z rs fp → ∀ a ∈ fp, ∃ o, H a = some o ∧ mut1 o = true
  | _, _, .nil => fun _ h => nomatch h
  | _, _, .cons h t => fun a m => (List.mem_append.mp m).elim (h.at a) (OwnR.at t a)

/-! ### freezing -/
theorem rdA_of {H : Hp} {Z : Addr → Prop} {P : V → D → List Addr → Prop} : ∀ {vs : List V} {ds : List D} {fp : List Addr}, OwnA P vs ds fp → (∀ v d f, P v d f → (∀ a ∈ f, a ∈ fp) → Rd H Z v d) → RdA H Z vs ds
  | _, _, _, .nil, _ => .nil
  | _, _, _, .cons h t, k => .cons (k _ _ _ h fun _ m => List.mem_append_left _ m) (rdA_of t fun v d f p q => k v d f p fun a m => List.mem_append_right _ (q a m))
theorem rdE_of {H : Hp} {Z : Addr → Prop} {P : V → D → List Addr → Prop} : ∀ {vs : List (D × V)} {ds : List (D × D)} {fp : List Addr}, OwnE P vs ds fp → (∀ v d f, P v d f → (∀ a ∈ f, a ∈ fp) → Rd H Z v d) → RdE H Z vs ds
  | _, _, _, .nil, _ => .nil
  | _, _, _, .cons h t, k => .cons (k _ _ _ h fun _ m => List.mem_append_left _ m) (rdE_of t fun v d f p q => k v d f p fun a m => List.mem_append_right _ (q a m))
theorem Ext.refl {Z : Addr → Prop} {H : Hp} : Ext Z H H := fun _ _ e _ => e
theorem Own.rd {H : Hp} {Z Z' : Addr → Prop} (z : ∀ a, Z a → Z' a) : ∀ {m : Md} {v : V} {d : D} {fp : List Addr}, Own H Z m v d fp → (∀ a ∈ fp, Z' a) → Rd H Z' v d
  | .F, _, _, _, ⟨h, _⟩, _ => h.mono Ext.refl z
  | .O m, v, d, fp, ⟨a, fs, e1, e2, h⟩, k => by
    subst e2
    subst e1
    have ka := k a (List.mem_cons_self ..)
    have ks : ∀ b ∈ fs, Z' b := fun b hb => k b (List.mem_cons_of_mem _ hb)
    rcases h with ⟨xs, ds, h1, rfl, h3⟩ | ⟨xs, ds, h1, rfl, h3⟩ | ⟨xs, ds, n, h1, rfl, h3⟩
    · exact .lst (.inl ⟨ka, h1⟩) (rdA_of h3 fun v d f p q => p.rd z fun b hb => ks b (q b hb))
    · exact .dK ka h1 (rdE_of h3 fun v d f p q => p.rd z fun b hb => ks b (q b hb))
    · exact .dT ka n h1 (rdE_of h3 fun v d f p q => p.rd z fun b hb => ks b (q b hb))

/-! ### the roots' list -/
theorem OwnR.perm {H : Hp} {Z : Addr → Prop} {rs rs' : List Root} (p : rs.Perm rs') : ∀ {fp : List Addr}, OwnR H Z rs fp → ∃ fp', OwnR H Z rs' fp' ∧ fp.Perm fp' := by
  induction p with
  | nil => intro fp h; exact ⟨fp, h, .refl _⟩
  | cons x _ ih =>
    intro fp h
    cases h with
    | cons h t =>
      obtain ⟨g', t', q⟩ := ih t
      exact ⟨_, .cons h t', q.append_left _⟩
  | swap x y l =>
    intro fp h
    cases h with
    | @cons _ _ _ _ f1 _ h t =>
      cases t with
      | @cons _ _ _ _ f2 f3 h2 t =>
        refine ⟨f2 ++ (f1 ++ f3), .cons h2 (.cons h t), ?_⟩
        rw [← List.append_assoc, ← List.append_assoc]
        exact (List.perm_append_comm).append_right _
  | trans _ _ ih1 ih2 =>
    intro fp h
    obtain ⟨g, h1, q1⟩ := ih1 h
    obtain ⟨g', h2, q2⟩ := ih2 h1
    exact ⟨g', h2, q1.trans q2⟩
theorem Rep.perm {rs rs' : List Root} {H : Hp} (h : Rep rs H) (p : rs.Perm rs') : Rep rs' H := by
  obtain ⟨Z, fp, o, nd, off, dom⟩ := h
  obtain ⟨fp', o', q⟩ := o.perm p
  exact ⟨Z, fp', o', q.nodup_iff.mp nd, fun a m => off a (q.mem_iff.mpr m), dom⟩
theorem Rep.tail {r : Root} {rs : List Root} {H : Hp} (h : Rep (r :: rs) H) : Rep rs H := by
  obtain ⟨Z, fp, o, nd, off, dom⟩ := h
  cases o with
  | cons h t => exact ⟨Z, _, t, (List.nodup_append.mp nd).2.1, fun a m => off a (List.mem_append_right _ m), dom⟩
theorem Rep.nil {H : Hp} : Rep [] H := ⟨fun _ => False, [], .nil, .nil, (fun _ h => nomatch h), fun _ h => h.elim⟩
theorem Rep.drop : ∀ {rs rs' : List Root} {H : Hp}, Rep (rs ++ rs') H → Rep rs' H
  | [], _, _, h => h
  | _ :: _, _, _, h => Rep.drop h.tail
theorem Rep.sub {rs rs' more : List Root} {H : Hp} (h : Rep rs H) (p : rs.Perm (more ++ rs')) : Rep rs' H := (h.perm p).drop
/-- an owned root is let go: frozen -/
theorem Rep.freeze {v : V} {d : D} {m : Md} {rs : List Root} {H : Hp} (h : Rep ((v, d, m) :: rs) H) : Rep ((v, d, .F) :: rs) H := by
  obtain ⟨Z, fp, o, nd, off, dom⟩ := h
  cases o with
  | @cons _ _ _ _ f g h t =>
    obtain ⟨n1, n2, n3⟩ := List.nodup_append.mp nd
    refine ⟨fun a => Z a ∨ a ∈ f, [] ++ g, .cons ⟨h.rd (fun _ => .inl) (fun _ => .inr), rfl⟩ (t.mono Ext.refl (fun _ => .inl) fun _ _ => rfl), n2, fun a m z => ?_, fun a z => ?_⟩
    · rcases z with z | z
      · exact off a (List.mem_append_right _ m) z
      · exact n3 a z a m rfl
    · rcases z with z | z
      · exact dom a z
      · obtain ⟨o, e, _⟩ := h.at a z
        rw [e]
        exact fun q => nomatch q
/-- a flat value is a root -/
theorem Rep.cons_rd {v : V} {d : D} {rs : List Root} {H : Hp} (h : Rep rs H) (r : ∀ Z, Rd H Z v d) : Rep ((v, d, .F) :: rs) H := by
  obtain ⟨Z, fp, o, nd, off, dom⟩ := h
  exact ⟨Z, [] ++ fp, .cons ⟨r Z, rfl⟩ o, nd, off, dom⟩
theorem RepZ.cons_rd {v : V} {d : D} {rs : List Root} {H : Hp} {Z : Addr → Prop} {fp : List Addr} (h : RepZ rs H Z fp) (r : Rd H Z v d) : Rep ((v, d, .F) :: rs) H :=
  ⟨Z, [] ++ fp, .cons ⟨r, rfl⟩ h.own, h.nd, h.off, h.dom⟩
/-- a member root, as it is owned -/
theorem OwnR.get {H : Hp} {Z : Addr → Prop} : ∀ {rs : List Root} {fp : List Addr}, OwnR H Z rs fp → ∀ {v : V} {d : D} {m : Md}, (v, d, m) ∈ rs → ∃ f, Own H Z m v d f ∧ ∀ a ∈ f, a ∈ fp
  | _, _, .nil, _, _, _, h => nomatch h
  | _, _, .cons h t, v, d, m, hm => by
    rcases List.mem_cons.mp hm with e | hm
    · cases e
      exact ⟨_, h, fun a q => List.mem_append_left _ q⟩
    · obtain ⟨f, h1, h2⟩ := OwnR.get t hm
      exact ⟨f, h1, fun a q => List.mem_append_right _ (h2 a q)⟩
/-- a new object: its footprint is itself -/
theorem ext_new {Z : Addr → Prop} {H : Hp} {p : Addr} {o : HO} (hp : H p = none) : Ext Z H (upd H p o) := fun a u e _ => by
  rw [upd_ne (ne_of_none e hp)]
  exact e
theorem RepZ.alloc {rs : List Root} {H : Hp} {Z : Addr → Prop} {fp : List Addr} (h : RepZ rs H Z fp) {p : Addr} {o : HO} (hp : H p = none) : RepZ rs (upd H p o) Z fp := by
  refine ⟨h.own.mono (ext_new hp) (fun _ z => z) fun a m => ?_, h.nd, h.off, fun a z => ?_⟩
  · obtain ⟨u, e, _⟩ := h.own.at a m
    exact upd_ne (ne_of_none e hp)
  · by_cases e : a = p
    · subst e; rw [upd_same]; exact fun q => nomatch q
    · rw [upd_ne e]; exact h.dom a z
theorem RepZ.push {rs : List Root} {H : Hp} {Z : Addr → Prop} {fp : List Addr} (h : RepZ rs H Z fp) {p : Addr} {o : HO} (hp : H p = none) {m : Md} {d : D}
    (w : Own (upd H p o) Z m (.ref p) d [p]) : Rep ((.ref p, d, m) :: rs) (upd H p o) := by
  have hz : ¬ Z p := fun z => h.dom p z hp
  have hf : p ∉ fp := fun m => by
    obtain ⟨u, e, _⟩ := h.own.at p m
    rw [hp] at e; cases e
  have h' := h.alloc (o := o) hp
  refine ⟨Z, [p] ++ fp, .cons w h'.own, List.nodup_cons.mpr ⟨hf, h.nd⟩, fun a m => ?_, h'.dom⟩
  rcases List.mem_cons.mp m with rfl | m
  · exact hz
  · exact h.off a m
end Dt
end
section
set_option Elab.async false
set_option linter.all false
set_option maxRecDepth 100000
set_option maxHeartbeats 2000000
/-! Own syntax and its meaning on pure data. -/
namespace Dt
open PySem PySem.Spec PyProof.Rows L2

/-- slots -/
abbrev Sl := List (Option D)
inductive Op where
  | add | sub | mul | fdiv | mod | pow | neg
  | eq | ne | lt | le | gt | ge | isIn | notIn | isN | notN | isB | notB
  | idx | slice | sliceL | sliceH | rev
  | len | int | abs | min2 | max2 | min1 | max1 | sum | sorted | list | tuple | repr | str | all | any
  | isInt | isBool | isTuple | isList | isStr | isSeq
  | count | index | index3 | range1 | range2 | get1 | get2
  deriving DecidableEq, Repr
/-- operations that change the object at a slot -/
inductive Mop where
  | append | extend | pop | popAt | set | augAdd | augSub | upd | remove
  deriving DecidableEq, Repr
/-- what a for walks -/
inductive Ik where
  | seq | range1 | range2 | range3 | enum | zip
  deriving DecidableEq, Repr
/-- targets -/
inductive Tg where
  | v (i : Nat)
  | nil
  | cons (a : Tg) (b : Tg)
  deriving DecidableEq, Repr
/-- expressions; argument lists are cons .. nil -/
inductive E where
  | var (i : Nat)
  | pk (i : Nat)
  | lnt (i : Nat)
  | non
  | bl (b : Bool)
  | int (i : Int)
  | str (x : Str)
  | nil
  | cons (a b : E)
  | op (o : Op) (fr : Bool) (as : E)
  | and (a b : E)
  | or (a b : E)
  | not (a : E)
  | ite (t a b : E)
  | tup (as : E)
  | lst (m : Md) (as : E)
  | dsp (ks : List Str) (as : E)
  | dnew (t : Bool)
  | call (f : Nat) (as : E)
  | mut (o : Mop) (i : Nat) (as : E)
  | mutI (o : Mop) (i : Nat) (k : E) (as : E)
  | lc (own : List Nat) (tg : Tg) (ik : Ik) (it : E) (c : E) (m : Md) (e : E)
  | lc2 (own : List Nat) (tg : Tg) (ik : Ik) (it : E) (c : E) (own1 : List Nat) (tg1 : Tg) (ik1 : Ik) (it1 : E) (c1 : E) (m : Md) (e : E)
  | dc (own : List Nat) (tg : Tg) (ik : Ik) (it : E) (c : E) (k : E) (e : E)
  | fld (i : Nat) (k : Nat)
  | chn (o o' : Op) (a b c : E)
  | meth (o : Op) (a : E) (as : E)
  deriving Repr
/-- statements -/
inductive S where
  | skip
  | seq (a b : S)
  | frz (i : Nat)
  | fgt (i : Nat) (m : Md)
  | set (i : Nat) (e : E)
  | unp (tg : Tg) (e : E)
  | par (tg : Tg) (as : E)
  | put (o : Mop) (i : Nat) (k : E) (e : E)
  | putI (o : Mop) (i : Nat) (k k2 : E) (e : E)
  | aug (o : Op) (i : Nat) (e : E)
  | exp (e : E)
  | ret (e : E)
  | retN
  | ite (t : E) (a b : S)
  | for (tg : Tg) (ik : Ik) (it : E) (b : S)
  | whl (t : E) (b : S)
  | brk
  | cnt
  | raise (c : Nat) (as : E)
  | tri (b : S) (hs : S)
  | hnd (c : Nat) (i : Option Nat) (b : S) (r : S)
  deriving Repr

/-! ### keys -/
inductive KK where
  | k (x : Key)
  | t (xs : List Key)
  deriving DecidableEq
def toK : D → Option Key
  | .int i => some (.inl i)
  | .str x => some (.inr x)
  | _ => none
def toKs : List D → Option (List Key)
  | [] => some []
  | d :: ds => (toK d).bind fun k => (toKs ds).map fun ks => k :: ks
def toKK : D → Option KK
  | .tuple _ => none
  | d => (toK d).map .k
def keyIsD (k : KK) (p : D × D) : Bool := decide (toKK p.1 = some k)
def dGet (es : List (D × D)) (k : KK) : Option D := (es.find? (keyIsD k)).map (·.2)
/-- the kind of a dict's keys: that of its first -/
def kindOk (es : List (D × D)) (k : KK) : Bool := match es, k with
  | [], .k _ => true
  | [], .t _ => false
  | (.tuple _, _) :: _, .t _ => true
  | (.tuple _, _) :: _, .k _ => false
  | _, .k _ => true
  | _, .t _ => false
def dPut (es : List (D × D)) (k : KK) (kd v : D) : List (D × D) :=
  if es.any (keyIsD k) then es.map fun p => if keyIsD k p then (p.1, v) else p else es ++ [(kd, v)]

/-! ### values -/
def ixD (n : Nat) (i : Int) : Option Nat := if 0 ≤ i then (if i < n then some i.toNat else none) else if -(n : Int) ≤ i then some (i + n).toNat else none
def atD {α : Type} (xs : List α) (i : Int) : Option α := (ixD xs.length i).bind fun j => xs[j]?
def dBool : Option Bool → Option D := Option.map .bool
def okD (d : D) : Bool := SeqAt.shaped d
def dEq (a b : D) : Option Bool := if okD a && okD b then some (PyData.eqv a b) else none
def isNone : D → Bool
  | .none => true
  | _ => false
def dLt : D → D → Option Bool
  | .int a, .int b => some (decide (a < b))
  | a, b => if okD a && okD b && W.alike a b && !isNone a then some (W.dataLt a b) else none
def dGt : D → D → Option Bool
  | .int a, .int b => some (decide (b < a))
  | a, b => if okD a && okD b && W.alike a b && !isNone a then some (W.dataLt b a) else none
def dLe : D → D → Option Bool
  | .int a, .int b => some (decide (a ≤ b))
  | _, _ => none
def listOf : D → Option (List D)
  | .list xs => some xs
  | .tuple xs => some xs
  | _ => none
def dIn (x : D) : D → Option Bool
  | .list xs => if okD x && okD (.list xs) then some (xs.any fun z => PyData.eqv z x) else none
  | .tuple xs => if okD x && okD (.tuple xs) then some (xs.any fun z => PyData.eqv z x) else none
  | .dict es => (toKK x).bind fun k => if kindOk es k then some (dGet es k).isSome else none
  | _ => none
def boolsOf : List D → Option (List Bool)
  | [] => some []
  | .bool b :: r => (boolsOf r).map (b :: ·)
  | _ :: _ => none
def intsOf : List D → Option (List Int)
  | [] => some []
  | .int b :: r => (intsOf r).map (b :: ·)
  | _ :: _ => none
def cutD {α : Type} (xs : List α) (lo hi : Option Int) : List α := (xs.drop (HT.sIx xs.length 0 lo)).take (HT.sIx xs.length xs.length hi - HT.sIx xs.length 0 lo)
def truthy : D → Option Bool
  | .none => some false
  | .bool b => some b
  | .int i => some (i != 0)
  | .str x => if x.length ≤ sizeLine then some (x.length != 0) else none
  | .list xs => some (!xs.isEmpty)
  | .tuple xs => some (!xs.isEmpty)
  | .dict _ => none
def rangeD (lo hi : Int) : List D := (List.range (hi - lo).toNat).map fun (i : Nat) => .int (lo + i)
def inR (i : Int) : Bool := decide (-(2 ^ 62) ≤ i) && decide (i < 2 ^ 62)
def alikeAll1 (xs : List D) : Bool := xs.all fun x => xs.all fun y => W.alike x y
def sortable1 (ds : List D) : Bool := (ds.all fun d => match d with | .tuple (_ :: _) => true | _ => false) || (ds.all fun d => match d with | .tuple _ => false | .none => false | _ => true)
def fAdd : D → D → Option D
  | .int a, .int b => some (.int (a + b))
  | .str x, .str y => if x.length + y.length ≤ sizeLine then some (.str (x ++ y)) else none
  | .list xs, .list ys => if xs.length + ys.length ≤ sizeLine then some (.list (xs ++ ys)) else none
  | .tuple xs, .tuple ys => if xs.length + ys.length ≤ sizeLine then some (.tuple (xs ++ ys)) else none
  | _, _ => none
def fSub : D → D → Option D
  | .int a, .int b => some (.int (a - b))
  | _, _ => none
def fMul : D → D → Option D
  | .int a, .int b => if (-(2 ^ 64) < a ∧ a < 2 ^ 64) ∨ (-(2 ^ 64) < b ∧ b < 2 ^ 64) then some (.int (a * b)) else none
  | .list xs, .int k => if -(2 ^ 63) ≤ k ∧ k < 2 ^ 63 ∧ xs.length * k.toNat ≤ sizeLine then some (.list (List.replicate k.toNat xs).flatten) else none
  | _, _ => none
def fDiv : D → D → Option D
  | .int a, .int b => if b ≠ 0 ∧ b.natAbs < 1073741824 then some (.int (a.fdiv b)) else none
  | _, _ => none
def fMod : D → D → Option D
  | .int a, .int b => if b ≠ 0 then some (.int (a.fmod b)) else none
  | _, _ => none
def fPow : D → D → Option D
  | .int a, .int b => if 0 ≤ b ∧ b ≤ 1000000 ∧ a.natAbs < 2 ^ 64 then some (.int (a ^ b.toNat)) else none
  | _, _ => none
def fNeg : D → Option D
  | .int a => some (.int (-a))
  | _ => none
def fIsB : D → D → Option Bool
  | .bool a, .bool b => some (a == b)
  | _, _ => none
def fIdx : D → D → Option D
  | .list xs, .int i => atD xs i
  | .tuple xs, .int i => atD xs i
  | .dict es, k => (toKK k).bind fun k => if kindOk es k then dGet es k else none
  | _, _ => none
def cutsD (x : D) (lo hi : Option Int) : Option D := match x with
  | .list xs => some (.list (cutD xs lo hi))
  | .tuple xs => some (.tuple (cutD xs lo hi))
  | _ => none
def fSlice : D → D → D → Option D
  | x, .int lo, .int hi => cutsD x (some lo) (some hi)
  | _, _, _ => none
def fSliceL : D → D → Option D
  | x, .int lo => cutsD x (some lo) none
  | _, _ => none
def fSliceH : D → D → Option D
  | x, .int hi => cutsD x none (some hi)
  | _, _ => none
def fRev : D → Option D
  | .list xs => some (.list xs.reverse)
  | .tuple xs => some (.tuple xs.reverse)
  | _ => none
def fLen : D → Option D
  | .list xs => some (.int xs.length)
  | .tuple xs => some (.int xs.length)
  | .dict es => some (.int es.length)
  | .str x => if x.length ≤ sizeLine then some (.int x.length) else none
  | _ => none
def fInt : D → Option D
  | .int i => some (.int i)
  | .bool b => some (.int (if b then 1 else 0))
  | _ => none
def fAbs : D → Option D
  | .int i => some (.int (if i < 0 then -i else i))
  | _ => none
def fMin2 : D → D → Option D
  | .int i, .int j => some (.int (if j < i then j else i))
  | _, _ => none
def fMax2 : D → D → Option D
  | .int i, .int j => some (.int (if j > i then j else i))
  | _, _ => none
def canOrd (xs : List D) : Bool := okD (.list xs) && alikeAll1 xs && xs.all (fun y => !isNone y)
def fMin1 : D → Option D
  | .list (x :: r) => if canOrd (x :: r) then some (W.minD x r) else none
  | .tuple (x :: r) => if canOrd (x :: r) then some (W.minD x r) else none
  | _ => none
def fMax1 : D → Option D
  | .list (x :: r) => if canOrd (x :: r) then some (W.maxD x r) else none
  | .tuple (x :: r) => if canOrd (x :: r) then some (W.maxD x r) else none
  | _ => none
def fSum : D → Option D
  | .list xs => (intsOf xs).map fun ns => .int ns.sum
  | _ => none
def leI (a b : Int) : Bool := decide (a ≤ b)
def cntD (ds : List D) (d : D) : Int := ((ds.countP fun y => PyData.eqv y d : Nat) : Int)
def ixFrom (ds : List D) (d : D) (k : Nat) : Option Nat := ((ds.drop k).findIdx? fun y => PyData.eqv y d).map (k + ·)
def fCount : D → D → Option D
  | .list xs, d => if okD (.list xs) && okD d then some (.int (cntD xs d)) else none
  | .tuple xs, d => if okD (.tuple xs) && okD d then some (.int (cntD xs d)) else none
  | _, _ => none
def natD (o : Option Nat) : Option D := o.map fun j => .int (j : Nat)
def fIndex : D → D → Option D
  | .list xs, d => if okD (.list xs) && okD d then natD (ixFrom xs d 0) else none
  | .tuple xs, d => if okD (.tuple xs) && okD d then natD (ixFrom xs d 0) else none
  | _, _ => none
def fIndex3 : D → D → D → Option D
  | .tuple xs, d, .int i => if okD (.tuple xs) && okD d then natD (ixFrom xs d (SeqAt.searchFrom i xs.length)) else none
  | _, _, _ => none
def fSorted : D → Option D
  | .dict es => (intsOf (es.map (·.1))).bind fun ns => if ns.length < 64 then some (.list ((ns.mergeSort leI).map .int)) else none
  | .list xs => if okD (.list xs) && alikeAll1 xs && sortable1 xs && decide (xs.length ≤ sizeLine) then some (.list (xs.mergeSort (W.dataLe false id))) else none
  | _ => none
def fList : D → Option D
  | .list xs => some (.list xs)
  | .tuple xs => some (.list xs)
  | _ => none
def fTuple : D → Option D
  | .list xs => some (.tuple xs)
  | .tuple xs => some (.tuple xs)
  | _ => none
def fRepr (d : D) : Option D := if okD d && d.showable && decide (d.shown.length ≤ sizeLine) then some (.str d.shown) else none
def fAll : D → Option D
  | .list xs => (boolsOf xs).map fun bs => .bool (bs.all id)
  | _ => none
def fAny : D → Option D
  | .list xs => (boolsOf xs).map fun bs => .bool (bs.any id)
  | _ => none
def isIntD : D → Bool
  | .int _ => true
  | .bool _ => true
  | _ => false
def isBoolD : D → Bool
  | .bool _ => true
  | _ => false
def isTupleD : D → Bool
  | .tuple _ => true
  | _ => false
def isListD : D → Bool
  | .list _ => true
  | _ => false
def isStrD : D → Bool
  | .str _ => true
  | _ => false
def fRange1 : D → Option D
  | .int n => if inR n && decide (n.toNat ≤ 2 ^ 24) then some (.list (rangeD 0 n)) else none
  | _ => none
def fRange2 : D → D → Option D
  | .int a, .int b => if inR a && inR b && decide ((b - a).toNat ≤ 2 ^ 24) then some (.list (rangeD a b)) else none
  | _, _ => none
def opF (o : Op) (ds : List D) : Option D := match ds with
  | [a] => (match o with
    | .neg => fNeg a
    | .isN => some (.bool (isNone a))
    | .notN => some (.bool (!isNone a))
    | .rev => fRev a
    | .len => fLen a
    | .int => fInt a
    | .abs => fAbs a
    | .min1 => fMin1 a
    | .max1 => fMax1 a
    | .sum => fSum a
    | .sorted => fSorted a
    | .list => fList a
    | .tuple => fTuple a
    | .repr => fRepr a
    | .all => fAll a
    | .any => fAny a
    | .isInt => some (.bool (isIntD a))
    | .isBool => some (.bool (isBoolD a))
    | .isTuple => some (.bool (isTupleD a))
    | .isList => some (.bool (isListD a))
    | .isStr => some (.bool (isStrD a))
    | .range1 => fRange1 a
    | _ => none)
  | [a, b] => (match o with
    | .add => fAdd a b
    | .sub => fSub a b
    | .mul => fMul a b
    | .fdiv => fDiv a b
    | .mod => fMod a b
    | .pow => fPow a b
    | .eq => dBool (dEq a b)
    | .ne => dBool ((dEq a b).map (!·))
    | .lt => dBool (dLt a b)
    | .gt => dBool (dGt a b)
    | .le => dBool (dLe a b)
    | .ge => dBool (dLe b a)
    | .isIn => dBool (dIn a b)
    | .notIn => dBool ((dIn a b).map (!·))
    | .isB => dBool (fIsB a b)
    | .notB => dBool ((fIsB a b).map (!·))
    | .idx => fIdx a b
    | .sliceL => fSliceL a b
    | .sliceH => fSliceH a b
    | .min2 => fMin2 a b
    | .max2 => fMax2 a b
    | .range2 => fRange2 a b
    | .count => fCount a b
    | .index => fIndex a b
    | _ => none)
  | [a, b, c] => (match o with
    | .slice => fSlice a b c
    | .index3 => fIndex3 a b c
    | _ => none)
  | _ => none
/-- results that are new lists -/
def frD : Op → D → Bool
  | .add, .list _ => true
  | .mul, .list _ => true
  | .slice, .list _ => true
  | .sliceL, .list _ => true
  | .sliceH, .list _ => true
  | .rev, .list _ => true
  | .sorted, .list _ => true
  | .list, .list _ => true
  | .range1, .list _ => true
  | .range2, .list _ => true
  | _, _ => false
def opR (o : Op) (fr : Bool) (ds : List D) : Option D := (opF o ds).bind fun d => if fr then (if frD o d then some d else none) else some d
/-- the receiver, the arguments; the answer, the receiver behind it -/
def mopF : Mop → D → List D → Option (D × D)
  | .append, .list xs, [d] => if xs.length < sizeLine then some (.none, .list (xs ++ [d])) else none
  | .extend, .list xs, [.list ys] => if xs.length + ys.length ≤ sizeLine then some (.none, .list (xs ++ ys)) else none
  | .pop, .list xs, [] => (xs[xs.length - 1]?).map fun y => (y, .list xs.dropLast)
  | .popAt, .list xs, [.int i] => if -(2 ^ 63) ≤ i ∧ i < 2 ^ 63 then (ixD xs.length i).bind fun k => xs[k]?.map fun y => (y, .list (xs.eraseIdx k)) else none
  | .set, .list xs, [.int i, d] => (ixD xs.length i).map fun j => (.none, .list (xs.set j d))
  | .set, .dict es, [k, d] => (toK k).bind fun y => if es.length < sizeLine ∧ kindOk es (.k y) = true then some (.none, .dict (dPut es (.k y) k d)) else none
  | .augAdd, .list xs, [.int i, .int b] => (ixD xs.length i).bind fun j => match xs[j]? with
    | some (.int a) => some (.none, .list (xs.set j (.int (a + b))))
    | _ => none
  | .augSub, .list xs, [.int i, .int b] => (ixD xs.length i).bind fun j => match xs[j]? with
    | some (.int a) => some (.none, .list (xs.set j (.int (a - b))))
    | _ => none
  | _, _, _ => none

/-! ### the meaning -/
inductive Out (α : Type) where
  | ok (a : α) (σ : Sl)
  | exc (c : Nat) (fs : List D) (σ : Sl)
  | bad
def Out.bind {α β : Type} (x : Out α) (f : α → Sl → Out β) : Out β := match x with
  | .ok a σ => f a σ
  | .exc c fs σ => .exc c fs σ
  | .bad => .bad
inductive Res where
  | ret (d : D) (ls : List D)
  | exc (c : Nat) (fs : List D) (ls : List D)
  | bad
inductive SOut where
  | nx (σ : Sl)
  | ret (d : D) (σ : Sl)
  | brk (σ : Sl)
  | cnt (σ : Sl)
  | exc (c : Nat) (fs : List D) (σ : Sl)
  | bad
def rdS (σ : Sl) (i : Nat) : Option D := (σ[i]?).join
def ofO {α : Type} (o : Option α) (σ : Sl) : Out α := match o with
  | some a => .ok a σ
  | none => .bad
/-- the slots that are lent by an argument list -/
def lnts : E → List Nat
  | .cons (.lnt i) r => i :: lnts r
  | .cons _ r => lnts r
  | _ => []
def back : List Nat → List D → Sl → Option Sl
  | [], [], σ => some σ
  | i :: is, d :: ds, σ => back is ds (σ.set i (some d))
  | _, _, _ => none
def asgT : Tg → D → Sl → Option Sl
  | .v i, d, σ => some (σ.set i (some d))
  | .nil, .tuple [], σ => some σ
  | .cons a b, .tuple (d :: ds), σ => (asgT a d σ).bind fun σ => asgT b (.tuple ds) σ
  | _, _, _ => none
def wipeD (σ : Sl) : List Nat → Sl
  | [] => σ
  | i :: is => (wipeD σ is).set i none
def itR1 : D → Option (List D)
  | .int n => if inR n then some (rangeD 0 n) else none
  | _ => none
def itR2 : D → D → Option (List D)
  | .int a, .int b => if inR a && inR b then some (rangeD a b) else none
  | _, _ => none
def enD (xs : List D) : List D := xs.zipIdx.map fun p => .tuple [.int (p.2 : Nat), p.1]
def itEn : D → Option (List D)
  | .list xs => some (enD xs)
  | .tuple xs => some (enD xs)
  | _ => none
def itZp : D → D → Option (List D)
  | .list xs, .list ys => some ((xs.zip ys).map fun p => .tuple [p.1, p.2])
  | .tuple xs, .tuple ys => some ((xs.zip ys).map fun p => .tuple [p.1, p.2])
  | _, _ => none
def itemsF (ik : Ik) (ds : List D) : Option (List D) := match ds with
  | [a] => (match ik with
    | .seq => listOf a
    | .range1 => itR1 a
    | .enum => itEn a
    | _ => none)
  | [a, b] => (match ik with
    | .range2 => itR2 a b
    | .zip => itZp a b
    | _ => none)
  | _ => none
/-- the comprehension's turns: the slots in, what is made so far -/
def loopG {α : Type} (f : D → α → Sl → Out α) : List D → α → Sl → Out α
  | [], acc, σ => .ok acc σ
  | d :: ds, acc, σ => (f d acc σ).bind fun acc σ => loopG f ds acc σ
def noX {α : Type} : Out α → Out α
  | .exc _ _ _ => .bad
  | x => x
abbrev Fns := Nat → List D → Res
/-- what a body may use: the functions, a bound of while's turns, which class is under which -/
structure Ev where
  F : Fns
  wf : Nat
  sub : Nat → Nat → Bool
def callO (F : Fns) (f : Nat) (is : List Nat) (ds : List D) (σ : Sl) : Out D := match F f ds with
  | .ret d ls => (match back is ls σ with
    | some σ' => .ok d σ'
    | none => .bad)
  | .exc c fs ls => (match back is ls σ with
    | some σ' => .exc c fs σ'
    | none => .bad)
  | .bad => .bad
def mutO (o : Mop) (i : Nat) (ds : List D) (σ : Sl) : Out D := match rdS σ i with
  | some r => (match mopF o r ds with
    | some (x, r') => .ok x (σ.set i (some r'))
    | none => .bad)
  | none => .bad
/-- the same of the item k of the list at a slot -/
def mutIO (o : Mop) (i : Nat) (k : D) (ds : List D) (σ : Sl) : Out D := match rdS σ i, k with
  | some (.list xs), .int z => (match ixD xs.length z with
    | some j => (match xs[j]? with
      | some c => (match mopF o c ds with
        | some (x, c') => .ok x (σ.set i (some (.list (xs.set j c'))))
        | none => .bad)
      | none => .bad)
    | none => .bad)
  | _, _ => .bad
def isLs (σ : Sl) (i : Nat) : Bool := match rdS σ i with
  | some (.list _) => true
  | _ => false
def fldO (i k : Nat) (σ : Sl) : Out D := match rdS σ i with
  | some (.tuple (_ :: fs)) => ofO fs[k]? σ
  | _ => .bad
/-- a turn of a comprehension -/
def turnG {α : Type} (own : List Nat) (tg : Tg) (c : Sl → Out Bool) (e : α → Sl → Out α) (d : D) (acc : α) (σ : Sl) : Out α :=
  match asgT tg d (wipeD σ own) with
  | some σ => (noX (c σ)).bind fun b σ => if b then noX (e acc σ) else .ok acc σ
  | none => .bad
def isSeqD : D → Bool
  | .list _ => true
  | .tuple _ => true
  | _ => false
def chnO (o' : Op) (y : D) (e : Sl → Out D) (σ : Sl) : Option D → Out D
  | some (.bool true) => (e σ).bind fun z σ => ofO (opF o' [y, z]) σ
  | some (.bool false) => .ok (.bool false) σ
  | _ => .bad
def app1 (e : Sl → Out D) (acc : List D) (σ : Sl) : Out (List D) := (e σ).bind fun x σ => if acc.length < sizeLine then .ok (acc ++ [x]) σ else .bad
def put1 (k e : Sl → Out D) (acc : List (D × D)) (σ : Sl) : Out (List (D × D)) := (k σ).bind fun kd σ => (e σ).bind fun v σ => match toKK kd with
  | some (.k x) => if acc.length < sizeLine ∧ kindOk acc (.k x) = true then .ok (dPut acc (.k x) kd v) σ else .bad
  | _ => .bad
def runG {α : Type} (own : List Nat) (dat : α → D) (f : D → α → Sl → Out α) (acc : α) (items : List D) (σ : Sl) : Out D :=
  match noX (loopG f items acc σ) with
  | .ok acc σ' => .ok (dat acc) (wipeD σ' own)
  | _ => .bad
def items1 (ik : Ik) (ds : List D) (σ : Sl) : Out (List D) := ofO (itemsF ik ds) σ
mutual
def evE (V : Ev) : E → Sl → Out D
  | .var i, σ => ofO (rdS σ i) σ
  | .pk i, σ => ofO (rdS σ i) σ
  | .non, σ => .ok .none σ
  | .bl b, σ => .ok (.bool b) σ
  | .int i, σ => .ok (.int i) σ
  | .str x, σ => .ok (.str x) σ
  | .op o fr as, σ => (evL V as σ).bind fun ds σ => ofO (opR o fr ds) σ
  | .and a b, σ => (evE V a σ).bind fun x σ => match x with
    | .bool true => evE V b σ
    | .bool false => .ok (.bool false) σ
    | _ => .bad
  | .or a b, σ => (evE V a σ).bind fun x σ => match x with
    | .bool true => .ok (.bool true) σ
    | .bool false => evE V b σ
    | _ => .bad
  | .not a, σ => (evE V a σ).bind fun x σ => match x with
    | .bool b => .ok (.bool (!b)) σ
    | _ => .bad
  | .ite t a b, σ => (evT V t σ).bind fun c σ => if c then evE V a σ else evE V b σ
  | .tup as, σ => (evL V as σ).bind fun ds σ => if ds.length ≤ sizeLine then .ok (.tuple ds) σ else .bad
  | .lst _ as, σ => (evL V as σ).bind fun ds σ => if ds.length ≤ sizeLine then .ok (.list ds) σ else .bad
  | .dsp ks as, σ => (evL V as σ).bind fun ds σ => if ks.length = ds.length then .ok (.dict ((ks.map .str).zip ds)) σ else .bad
  | .dnew _, σ => .ok (.dict []) σ
  | .call f as, σ => (evL V as σ).bind fun ds σ => callO V.F f (lnts as) ds σ
  | .mut o i as, σ => if isLs σ i then (evL V as σ).bind fun ds σ => mutO o i ds σ else .bad
  | .mutI o i k as, σ => (evE V k σ).bind fun kd σ => (evL V as σ).bind fun ds σ => mutIO o i kd ds σ
  | .lc own tg ik it c _ e, σ => ((evL V it σ).bind fun ds σ => items1 ik ds σ).bind fun items σ =>
      runG own .list (turnG own tg (evT V c) (app1 (evE V e))) [] items σ
  | .lc2 own tg ik it c own1 tg1 ik1 it1 c1 _ e, σ => ((evL V it σ).bind fun ds σ => items1 ik ds σ).bind fun items σ =>
      runG own .list (turnG own tg (evT V c) fun acc σ => ((evL V it1 σ).bind fun ds σ => items1 ik1 ds σ).bind fun items1 σ =>
        (loopG (turnG own1 tg1 (evT V c1) (app1 (evE V e))) items1 acc σ).bind fun acc σ => .ok acc (wipeD σ own1)) [] items σ
  | .dc own tg ik it c k e, σ => ((evL V it σ).bind fun ds σ => items1 ik ds σ).bind fun items σ =>
      runG own .dict (turnG own tg (evT V c) (put1 (evE V k) (evE V e))) [] items σ
  | .fld i k, σ => fldO i k σ
  | .chn o o' a b c, σ => (evE V a σ).bind fun x σ => (evE V b σ).bind fun y σ => chnO o' y (evE V c) σ (opF o [x, y])
  | .meth o a as, σ => (evE V a σ).bind fun x σ => if isSeqD x then (evL V as σ).bind fun ds σ => ofO (opF o (x :: ds)) σ else .bad
  | .lnt _, _ => .bad
  | .nil, _ => .bad
  | .cons _ _, _ => .bad
def evT (V : Ev) : E → Sl → Out Bool
  | .and a b, σ => (evT V a σ).bind fun c σ => if c then evT V b σ else .ok false σ
  | .or a b, σ => (evT V a σ).bind fun c σ => if c then .ok true σ else evT V b σ
  | .not a, σ => (evT V a σ).bind fun c σ => .ok (!c) σ
  | e, σ => (evE V e σ).bind fun d σ => ofO (truthy d) σ
def evL (V : Ev) : E → Sl → Out (List D)
  | .nil, σ => .ok [] σ
  | .cons (.pk i) r, σ => if (rdS σ i).isSome then (evL V r σ).bind fun ds σ => (ofO (rdS σ i) σ).bind fun d σ => .ok (d :: ds) σ else .bad
  | .cons (.lnt i) r, σ => if (rdS σ i).isSome then (evL V r σ).bind fun ds σ => (ofO (rdS σ i) σ).bind fun d σ => .ok (d :: ds) σ else .bad
  | .cons a r, σ => (evE V a σ).bind fun d σ => (evL V r σ).bind fun ds σ => .ok (d :: ds) σ
  | _, _ => .bad
end
def SOut.ofE {α : Type} (x : Out α) (f : α → Sl → SOut) : SOut := match x with
  | .ok a σ => f a σ
  | .exc c fs σ => .exc c fs σ
  | .bad => .bad
def SOut.next (x : SOut) (f : Sl → SOut) : SOut := match x with
  | .nx σ => f σ
  | x => x
/-- a for's turns -/
def forLoop (f : D → Sl → SOut) : List D → Sl → SOut
  | [], σ => .nx σ
  | d :: ds, σ => match f d σ with
    | .nx σ => forLoop f ds σ
    | .cnt σ => forLoop f ds σ
    | .brk σ => .nx σ
    | x => x
def whlLoop (t : Sl → Out Bool) (f : Sl → SOut) : Nat → Sl → SOut
  | 0, _ => .bad
  | n + 1, σ => SOut.ofE (t σ) fun c σ => if c then (match f σ with
    | .nx σ => whlLoop t f n σ
    | .cnt σ => whlLoop t f n σ
    | .brk σ => .nx σ
    | x => x) else .nx σ
def augF : Op → D → D → Option D
  | .add, .int a, .int b => some (.int (a + b))
  | .sub, .int a, .int b => some (.int (a - b))
  | _, _, _ => none
def noXS : SOut → SOut
  | .exc _ _ _ => .bad
  | x => x
/-- behind a suite its name is gone -/
def goneS (i : Option Nat) (x : SOut) : SOut := match i with
  | none => x
  | some i => match x with
    | .nx σ => .nx (σ.set i none)
    | .brk σ => .brk (σ.set i none)
    | .cnt σ => .cnt (σ.set i none)
    | .ret d σ => .ret d (σ.set i none)
    | x => x
def setX (i : Option Nat) (c : Nat) (fs : List D) (σ : Sl) : Sl := match i with
  | none => σ
  | some i => σ.set i (some (.tuple (.int c :: fs)))
mutual
def evS (V : Ev) : S → Sl → SOut
  | .skip, σ => .nx σ
  | .seq a b, σ => (evS V a σ).next fun σ => evS V b σ
  | .frz _, σ => .nx σ
  | .fgt i _, σ => .nx (σ.set i none)
  | .set i e, σ => SOut.ofE (evE V e σ) fun d σ => .nx (σ.set i (some d))
  | .unp tg e, σ => SOut.ofE (evE V e σ) fun d σ => (match asgT tg d σ with
    | some σ => .nx σ
    | none => .bad)
  | .par tg as, σ => SOut.ofE (evL V as σ) fun ds σ => (match asgT tg (.tuple ds) σ with
    | some σ => .nx σ
    | none => .bad)
  | .put o i k e, σ => (match o with
    | .set => SOut.ofE (evE V e σ) fun d σ => if (rdS σ i).isSome then SOut.ofE (evE V k σ) fun kd σ => SOut.ofE (mutO o i [kd, d] σ) fun _ σ => .nx σ else .bad
    | o => if (rdS σ i).isSome then SOut.ofE (evE V k σ) fun kd σ => SOut.ofE (evE V e σ) fun d σ => SOut.ofE (mutO o i [kd, d] σ) fun _ σ => .nx σ else .bad)
  | .putI o i k k2 e, σ => SOut.ofE (evE V e σ) fun d σ => SOut.ofE (evE V k σ) fun kd σ => SOut.ofE (evE V k2 σ) fun kd2 σ => SOut.ofE (mutIO o i kd [kd2, d] σ) fun _ σ => .nx σ
  | .aug o i e, σ => if (rdS σ i).isSome then SOut.ofE (evE V e σ) fun d σ => SOut.ofE (ofO ((rdS σ i).bind fun x => augF o x d) σ) fun y σ => .nx (σ.set i (some y)) else .bad
  | .exp e, σ => SOut.ofE (evE V e σ) fun _ σ => .nx σ
  | .ret e, σ => SOut.ofE (evE V e σ) fun d σ => .ret d σ
  | .retN, σ => .ret .none σ
  | .ite t a b, σ => SOut.ofE (evT V t σ) fun c σ => if c then evS V a σ else evS V b σ
  | .for tg ik it b, σ => SOut.ofE (evL V it σ) fun ds σ => SOut.ofE (items1 ik ds σ) fun items σ =>
      forLoop (fun d σ => match asgT tg d σ with
        | some σ => evS V b σ
        | none => .bad) items σ
  | .whl t b, σ => whlLoop (evT V t) (evS V b) V.wf σ
  | .brk, σ => .brk σ
  | .cnt, σ => .cnt σ
  | .raise c as, σ => SOut.ofE (evL V as σ) fun ds σ => .exc c ds σ
  | .tri b hs, σ => (match evS V b σ with
    | .exc c fs σ => evH V hs c fs σ
    | x => x)
  | .hnd _ _ _ _, _ => .bad
/-- the clauses -/
def evH (V : Ev) : S → Nat → List D → Sl → SOut
  | .hnd c0 i b r, c, fs, σ => if V.sub c c0 then goneS i (noXS (evS V b (setX i c fs σ))) else evH V r c fs σ
  | _, c, fs, σ => .exc c fs σ
end
/-- a def: its parameters' number, those that are lent, its slots, its body -/
structure Fn where
  np : Nat
  ln : List Nat
  ns : Nat
  rm : Md
  body : S
def readAll : List Nat → Sl → Option (List D)
  | [], _ => some []
  | i :: is, σ => (rdS σ i).bind fun d => (readAll is σ).map (d :: ·)
def endF (ln : List Nat) (x : SOut) : Res := match x with
  | .nx σ => (match readAll ln σ with
    | some ls => .ret .none ls
    | none => .bad)
  | .ret d σ => (match readAll ln σ with
    | some ls => .ret d ls
    | none => .bad)
  | .exc c fs σ => (match readAll ln σ with
    | some ls => .exc c fs ls
    | none => .bad)
  | _ => .bad
def start0 (ns : Nat) (ds : List D) : Sl := ds.map some ++ List.replicate (ns - ds.length) none
/-- the program: its defs, run k deep -/
structure Prg where
  fns : List Fn
  sub : Nat → Nat → Bool
def run (P : Prg) (wf : Nat) : Nat → Fns
  | 0, _, _ => .bad
  | k + 1, f, ds => match P.fns[f]? with
    | some d => if ds.length = d.np then endF d.ln (evS ⟨run P wf k, wf, P.sub⟩ d.body (start0 d.ns ds)) else .bad
    | none => .bad
end Dt
end
section
set_option Elab.async false
set_option linter.all false
set_option maxRecDepth 100000
set_option maxHeartbeats 2000000
/-! The slots as roots; what a reading means over them. -/
namespace Dt
open PySem PySem.Spec PyProof.Rows L2

inductive SR : List Md → L2.St → Sl → List Root → Prop
  | nil : SR [] [] [] []
  | live {m : Md} {md : List Md} {v : V} {σ : L2.St} {d : D} {en : Sl} {rs : List Root} : SR md σ en rs → SR (m :: md) (some v :: σ) (some d :: en) ((v, d, m) :: rs)
  | dead {m : Md} {md : List Md} {o : Option V} {σ : L2.St} {en : Sl} {rs : List Root} : SR md σ en rs → SR (m :: md) (o :: σ) (none :: en) rs
theorem SR.len {md : List Md} {σ : L2.St} {en : Sl} {rs : List Root} (h : SR md σ en rs) : σ.length = md.length ∧ en.length = md.length := by
  induction h with
  | nil => exact ⟨rfl, rfl⟩
  | live _ ih => exact ⟨congrArg (· + 1) ih.1, congrArg (· + 1) ih.2⟩
  | dead _ ih => exact ⟨congrArg (· + 1) ih.1, congrArg (· + 1) ih.2⟩
theorem rdS_cons {o : Option D} {en : Sl} {i : Nat} : rdS (o :: en) (i + 1) = rdS en i := rfl
theorem rdS_zero {o : Option D} {en : Sl} : rdS (o :: en) 0 = o := rfl
theorem SR.get {md : List Md} {σ : L2.St} {en : Sl} {rs : List Root} (h : SR md σ en rs) : ∀ {i : Nat} {d : D}, rdS en i = some d → ∃ v m, σ[i]? = some (some v) ∧ md[i]? = some m ∧ (v, d, m) ∈ rs := by
  induction h with
  | nil => intro i d e; cases e
  | @live m md v σ d en rs _ ih =>
    intro i d' e
    cases i with
    | zero => rw [rdS_zero] at e; cases e; exact ⟨v, m, rfl, rfl, List.mem_cons_self ..⟩
    | succ i =>
      rw [rdS_cons] at e
      obtain ⟨v', m', h1, h2, h3⟩ := ih e
      exact ⟨v', m', h1, h2, List.mem_cons_of_mem _ h3⟩
  | @dead m md o σ en rs _ ih =>
    intro i d' e
    cases i with
    | zero => rw [rdS_zero] at e; cases e
    | succ i => rw [rdS_cons] at e; exact ih e
/-- a live slot's root by itself; what the slot may hold instead -/
theorem SR.take {md : List Md} {σ : L2.St} {en : Sl} {rs : List Root} (h : SR md σ en rs) : ∀ {i : Nat} {d : D}, rdS en i = some d →
    ∃ v m rs', σ[i]? = some (some v) ∧ md[i]? = some m ∧ rs.Perm ((v, d, m) :: rs') ∧ SR md σ (en.set i none) rs' ∧
      ∀ d', ∃ rs'', SR md σ (en.set i (some d')) rs'' ∧ rs''.Perm ((v, d', m) :: rs') := by
  induction h with
  | nil => intro i d e; cases e
  | @live m md v σ d en rs h ih =>
    intro i d' e
    cases i with
    | zero => rw [rdS_zero] at e; cases e; exact ⟨v, m, rs, rfl, rfl, .refl _, .dead h, fun d' => ⟨_, .live h, .refl _⟩⟩
    | succ i =>
      rw [rdS_cons] at e
      obtain ⟨v', m', rs', h1, h2, h3, h4, h5⟩ := ih e
      refine ⟨v', m', (v, d, m) :: rs', h1, h2, (h3.cons _).trans (.swap _ _ _), .live h4, fun d2 => ?_⟩
      obtain ⟨rs2, q1, q2⟩ := h5 d2
      exact ⟨_, .live q1, (q2.cons _).trans (.swap _ _ _)⟩
  | @dead m md o σ en rs h ih =>
    intro i d' e
    cases i with
    | zero => rw [rdS_zero] at e; cases e
    | succ i =>
      rw [rdS_cons] at e
      obtain ⟨v', m', rs', h1, h2, h3, h4, h5⟩ := ih e
      refine ⟨v', m', rs', h1, h2, h3, .dead h4, fun d2 => ?_⟩
      obtain ⟨rs2, q1, q2⟩ := h5 d2
      exact ⟨_, .dead q1, q2⟩
/-- a slot is stored anew -/
theorem SR.put {md : List Md} {σ : L2.St} {en : Sl} {rs : List Root} (h : SR md σ en rs) : ∀ {i : Nat} {m : Md}, md[i]? = some m → ∀ (v : V) (d : D),
    ∃ rs' more rs'', SR md (σ.set i (some v)) (en.set i (some d)) rs'' ∧ rs''.Perm ((v, d, m) :: rs') ∧ rs.Perm (more ++ rs') := by
  induction h with
  | nil => intro i m e; cases e
  | @live m md v σ d en rs h ih =>
    intro i m' e v' d'
    cases i with
    | zero => cases e; exact ⟨rs, [(v, d, m)], _, .live h, .refl _, .refl _⟩
    | succ i =>
      obtain ⟨rs', more, rs'', h1, h2, h3⟩ := ih (i := i) e v' d'
      refine ⟨(v, d, m) :: rs', more, _, .live h1, (h2.cons _).trans (.swap _ _ _), (h3.cons _).trans ?_⟩
      exact List.perm_middle.symm
  | @dead m md o σ en rs h ih =>
    intro i m' e v' d'
    cases i with
    | zero => cases e; exact ⟨rs, [], _, .live h, .refl _, .refl _⟩
    | succ i =>
      obtain ⟨rs', more, rs'', h1, h2, h3⟩ := ih (i := i) e v' d'
      exact ⟨rs', more, _, .dead h1, h2, h3⟩
theorem SR.kill {md : List Md} {σ : L2.St} {en : Sl} {rs : List Root} (h : SR md σ en rs) : ∀ (i : Nat) (o : Option V), ∃ rs' more, SR md (σ.set i o) (en.set i none) rs' ∧ rs.Perm (more ++ rs') := by
  induction h with
  | nil => intro i o; exact ⟨[], [], .nil, .refl _⟩
  | @live m md v σ d en rs h ih =>
    intro i o
    cases i with
    | zero => exact ⟨rs, [(v, d, m)], .dead h, .refl _⟩
    | succ i =>
      obtain ⟨rs', more, h1, h3⟩ := ih i o
      exact ⟨(v, d, m) :: rs', more, .live h1, (h3.cons _).trans List.perm_middle.symm⟩
  | @dead m md o' σ en rs h ih =>
    intro i o
    cases i with
    | zero => exact ⟨rs, [], .dead h, .refl _⟩
    | succ i =>
      obtain ⟨rs', more, h1, h3⟩ := ih i o
      exact ⟨rs', more, .dead h1, h3⟩
/-- the slot i frozen -/
theorem SR.frz {md : List Md} {σ : L2.St} {en : Sl} {rs : List Root} (h : SR md σ en rs) : ∀ (i : Nat), (∃ rs', SR (md.set i .F) σ en rs' ∧ rs'.Perm rs) ∨
    ∃ v d m rs0 rs', rs.Perm ((v, d, m) :: rs0) ∧ SR (md.set i .F) σ en rs' ∧ rs'.Perm ((v, d, .F) :: rs0) := by
  induction h with
  | nil => intro i; exact .inl ⟨[], .nil, .refl _⟩
  | @live m md v σ d en rs h ih =>
    intro i
    cases i with
    | zero => exact .inr ⟨v, d, m, rs, _, .refl _, .live h, .refl _⟩
    | succ i =>
      rcases ih i with ⟨rs', h1, h2⟩ | ⟨v', d', m', rs0, rs', h1, h2, h3⟩
      · exact .inl ⟨_, .live h1, h2.cons _⟩
      · exact .inr ⟨v', d', m', (v, d, m) :: rs0, _, (h1.cons _).trans (.swap _ _ _), .live h2, (h3.cons _).trans (.swap _ _ _)⟩
  | @dead m md o σ en rs h ih =>
    intro i
    cases i with
    | zero => exact .inl ⟨rs, .dead h, .refl _⟩
    | succ i =>
      rcases ih i with ⟨rs', h1, h2⟩ | ⟨v', d', m', rs0, rs', h1, h2, h3⟩
      · exact .inl ⟨_, .dead h1, h2⟩
      · exact .inr ⟨v', d', m', rs0, _, h1, .dead h2, h3⟩

/-- the slots and the further roots ts stand for data -/
def RepS (md : List Md) (σ : L2.St) (en : Sl) (ts : List Root) (H : Hp) : Prop := ∃ rs, SR md σ en rs ∧ Rep (rs ++ ts) H
section
variable {md : List Md} {σ : L2.St} {en : Sl} {ts : List Root} {H H' : Hp} {v : V} {d : D} {m : Md}
theorem perm_out {α : Type} {a : α} {l r : List α} : (l ++ a :: r).Perm (a :: (l ++ r)) := List.perm_middle
theorem RepS.tail {r : Root} (h : RepS md σ en (r :: ts) H) : RepS md σ en ts H := by
  obtain ⟨rs, h1, h2⟩ := h
  exact ⟨rs, h1, (h2.perm perm_out).tail⟩
theorem RepS.drop : ∀ {tr : List Root}, RepS md σ en (tr ++ ts) H → RepS md σ en ts H
  | [], h => h
  | _ :: tr, h => RepS.drop (tr := tr) h.tail
theorem RepS.permT {ts' : List Root} (h : RepS md σ en ts H) (p : ts.Perm ts') : RepS md σ en ts' H := by
  obtain ⟨rs, h1, h2⟩ := h
  exact ⟨rs, h1, h2.perm (p.append_left _)⟩
theorem RepS.get {i : Nat} (h : RepS md σ en ts H) (e : rdS en i = some d) : ∃ v m rs, σ[i]? = some (some v) ∧ md[i]? = some m ∧ Rep rs H ∧ (v, d, m) ∈ rs := by
  obtain ⟨rs, h1, h2⟩ := h
  obtain ⟨v, m, q1, q2, q3⟩ := h1.get e
  exact ⟨v, m, rs ++ ts, q1, q2, h2, List.mem_append_left _ q3⟩
/-- a frozen member once more -/
theorem RepS.dup {i : Nat} (h : RepS md σ en ts H) (e : rdS en i = some d) (hm : md[i]? = some .F) : ∃ v, σ[i]? = some (some v) ∧ RepS md σ en ((v, d, .F) :: ts) H := by
  obtain ⟨rs, h1, h2⟩ := h
  obtain ⟨v, m, q1, q2, q3⟩ := h1.get e
  rw [hm] at q2
  cases q2
  obtain ⟨Z, fp, z⟩ := h2
  obtain ⟨f, ⟨r, _⟩, _⟩ := z.own.get (List.mem_append_left _ q3)
  exact ⟨v, q1, rs, h1, (z.cons_rd r).perm perm_out.symm⟩
theorem RepS.flat (h : RepS md σ en ts H) (r : ∀ Z, Rd H Z v d) : RepS md σ en ((v, d, .F) :: ts) H := by
  obtain ⟨rs, h1, h2⟩ := h
  exact ⟨rs, h1, (h2.cons_rd r).perm perm_out.symm⟩
theorem RepS.freeze (h : RepS md σ en ((v, d, m) :: ts) H) : RepS md σ en ((v, d, .F) :: ts) H := by
  obtain ⟨rs, h1, h2⟩ := h
  exact ⟨rs, h1, ((h2.perm perm_out).freeze).perm perm_out.symm⟩
/-- the first further root is stored into a slot -/
theorem RepS.set {i : Nat} (h : RepS md σ en ((v, d, m) :: ts) H) (hm : md[i]? = some m) : RepS md (σ.set i (some v)) (en.set i (some d)) ts H := by
  obtain ⟨rs, h1, h2⟩ := h
  obtain ⟨rs', more, rs'', q1, q2, q3⟩ := h1.put hm v d
  refine ⟨rs'', q1, ?_⟩
  have p : (rs ++ (v, d, m) :: ts).Perm (more ++ (rs'' ++ ts)) := by
    refine perm_out.trans ?_
    refine ((q3.append_right ts).cons _).trans ?_
    rw [List.append_assoc]
    refine (List.perm_middle.symm).trans ?_
    exact ((q2.symm.append_right ts)).append_left more
  exact h2.sub p
theorem RepS.kill (h : RepS md σ en ts H) (i : Nat) (o : Option V) : RepS md (σ.set i o) (en.set i none) ts H := by
  obtain ⟨rs, h1, h2⟩ := h
  obtain ⟨rs', more, q1, q3⟩ := h1.kill i o
  refine ⟨rs', q1, h2.sub (more := more) ?_⟩
  rw [← List.append_assoc]
  exact q3.append_right ts
theorem RepS.frz (h : RepS md σ en ts H) (i : Nat) : RepS (md.set i .F) σ en ts H := by
  obtain ⟨rs, h1, h2⟩ := h
  rcases h1.frz i with ⟨rs', q1, q2⟩ | ⟨v, d, m, rs0, rs', q1, q2, q3⟩
  · exact ⟨rs', q1, h2.perm (q2.symm.append_right ts)⟩
  · refine ⟨rs', q2, ?_⟩
    have a := (h2.perm (q1.append_right ts)).freeze
    exact a.perm (q3.symm.append_right ts)
/-- a slot's own root ahead of all others, and back with other data -/
theorem RepS.open {i : Nat} (h : RepS md σ en ts H) (e : rdS en i = some d) : ∃ v m rs', σ[i]? = some (some v) ∧ md[i]? = some m ∧ Rep ((v, d, m) :: (rs' ++ ts)) H ∧
    ∀ d' ts' H', Rep ((v, d', m) :: (rs' ++ ts')) H' → RepS md σ (en.set i (some d')) ts' H' := by
  obtain ⟨rs, h1, h2⟩ := h
  obtain ⟨v, m, rs', q1, q2, q3, q4, q5⟩ := h1.take e
  refine ⟨v, m, rs', q1, q2, h2.perm (q3.append_right ts), fun d' ts' H' r => ?_⟩
  obtain ⟨rs'', z1, z2⟩ := q5 d'
  exact ⟨rs'', z1, r.perm (z2.symm.append_right ts')⟩
end

/-! ### readings -/
/-- what is wished of an exception: not yet -/
def XW (md : List Md) (W : WX) (c : Nat) (fs : List D) (en : Sl) (ts : List Root) (σ : L2.St) : Prop := False
def Post {α : Type} (md : List Md) (W : WX) (σ : L2.St) (ts : List Root) (x : Out α) (k : α → Sl → Prop) : Prop := match x with
  | .ok a en => k a en
  | .exc c fs en => XW md W c fs en ts σ
  | .bad => False
section
variable {α β : Type} {md : List Md} {W : WX} {σ : L2.St} {ts : List Root} {x : Out α} {k k' : α → Sl → Prop}
theorem Post.bind {f : α → Sl → Out β} {k : β → Sl → Prop} (h : Post md W σ ts (x.bind f) k) : Post md W σ ts x fun a en => Post md W σ ts (f a en) k := by
  cases x with
  | ok a en => exact h
  | exc c fs en => exact h
  | bad => exact h
theorem Post.mono (h : Post md W σ ts x k) (q : ∀ a en, x = .ok a en → k a en → k' a en) : Post md W σ ts x k' := by
  cases x with
  | ok a en => exact q a en rfl h
  | exc c fs en => exact h
  | bad => exact h
theorem XW.more {c : Nat} {fs : List D} {en : Sl} (tr : List Root) (h : XW md W c fs en ts σ) : XW md W c fs en (tr ++ ts) σ := h
theorem Post.more (tr : List Root) (h : Post md W σ ts x k) : Post md W σ (tr ++ ts) x k := by
  cases x with
  | ok a en => exact h
  | exc c fs en => exact XW.more (md := md) (W := W) (σ := σ) (ts := ts) (c := c) (fs := fs) (en := en) tr h
  | bad => exact h
theorem Post.ofO {o : Option α} {en : Sl} (h : Post md W σ ts (ofO o en) k) : ∃ a, o = some a ∧ k a en := by
  cases o with
  | none => exact h.elim
  | some a => exact ⟨a, rfl, h⟩
end
/-- an expression's reading by its meaning -/
def tD (md : List Md) (rm : Md) (W : WX) (m : Sl → Out D) : TE := fun σ H Q => ∃ en ts, RepS md σ en ts H ∧
  Post md W σ ts (m en) fun d en' => ∀ v H', RepS md σ en' ((v, d, rm) :: ts) H' → Q v H'
/-- a test's -/
def tDT (md : List Md) (W : WX) (m : Sl → Out Bool) : TT := fun σ H Q => ∃ en ts, RepS md σ en ts H ∧
  Post md W σ ts (m en) fun b en' => ∀ H', RepS md σ en' ts H' → Q b H'
/-- an operand that stands in its slot -/
def isPk : E → Bool
  | .pk _ => true
  | .lnt _ => true
  | _ => false
/-- the operands -/
inductive Ops (md : List Md) (σ : L2.St) (en : Sl) : E → List V → List D → List Md → List Root → Prop
  | nil : Ops md σ en .nil [] [] [] []
  | pk {i : Nat} {r : E} {v : V} {d : D} {m : Md} {vs : List V} {ds : List D} {ms : List Md} {tr : List Root} : σ[i]? = some (some v) → rdS en i = some d → md[i]? = some m → Ops md σ en r vs ds ms tr → Ops md σ en (.cons (.pk i) r) (v :: vs) (d :: ds) (m :: ms) tr
  | lnt {i : Nat} {r : E} {v : V} {d : D} {m : Md} {vs : List V} {ds : List D} {ms : List Md} {tr : List Root} : σ[i]? = some (some v) → rdS en i = some d → md[i]? = some m → Ops md σ en r vs ds ms tr → Ops md σ en (.cons (.lnt i) r) (v :: vs) (d :: ds) (m :: ms) tr
  | tmp {a r : E} {v : V} {d : D} {m : Md} {vs : List V} {ds : List D} {ms : List Md} {tr : List Root} : isPk a = false → Ops md σ en r vs ds ms tr → Ops md σ en (.cons a r) (v :: vs) (d :: ds) (m :: ms) ((v, d, m) :: tr)
def tDL (md : List Md) (W : WX) (m : Sl → Out (List D)) (as : E) (ms : List Md) : TA := fun σ H Q => ∃ en ts, RepS md σ en ts H ∧
  Post md W σ ts (m en) fun ds en' => ∀ vs H' tr, RepS md σ en' (tr ++ ts) H' → Ops md σ en' as vs ds ms tr → Q vs H'
theorem PE.imp {X : Cx} {e : Expr} {t t' : TE} (h : PE X e t) (q : ∀ σ H Q, t' σ H Q → t σ H Q) : PE X e t' := ⟨fun pins s σ H Q I w => h.run pins s σ H Q I (q σ H Q w)⟩
theorem PT.imp {X : Cx} {e : Expr} {t t' : TT} (h : PT X e t) (q : ∀ σ H Q, t' σ H Q → t σ H Q) : PT X e t' := ⟨fun pins s σ H Q I w => h.run pins s σ H Q I (q σ H Q w)⟩
theorem PA.imp {X : Cx} {e : List Expr} {t t' : TA} (h : PA X e t) (q : ∀ σ H Q, t' σ H Q → t σ H Q) : PA X e t' := ⟨fun p pins s σ H Q I w => h.run p pins s σ H Q I (q σ H Q w)⟩
theorem PS.imp {X : Cx} {e : Stmt} {t t' : TS} (h : PS X e t) (q : ∀ D σ H, t' D σ H → t D σ H) : PS X e t' := ⟨fun pins s σ H D I w => h.run pins s σ H D I (q D σ H w)⟩
theorem PSs.imp {X : Cx} {e : List Stmt} {t t' : TS} (h : PSs X e t) (q : ∀ D σ H, t' D σ H → t D σ H) : PSs X e t' := ⟨fun pins s σ H D I w => h.run pins s σ H D I (q D σ H w)⟩
end Dt
end
section
set_option Elab.async false
set_option linter.all false
set_option maxRecDepth 100000
set_option maxHeartbeats 4000000
/-! Operations on values: what each asks (HandS), by what it means on data. -/
namespace Dt
open PySem PySem.Spec PyProof.Rows L2

/-! ### a root as an operand -/
def LstAt (H : Hp) (a : Addr) (xs : List V) : Prop := H a = some (.lst xs) ∨ ∃ o, H a = some (.frz o (.lst xs))
theorem TupAt.sq {K : PySem.W.Frag} {H : Hp} {a : Addr} {xs : List V} (h : TupAt H a xs) : SqT K H a xs := let ⟨o, _, e⟩ := h; .inl (.inr ⟨o, e⟩)
theorem LstAt.sq {K : PySem.W.Frag} {H : Hp} {a : Addr} {xs : List V} (h : LstAt H a xs) : SqL K H a xs := .inl h
def Vw (H : Hp) (Z : Addr → Prop) (v : V) : D → Prop
  | .none => v = .non
  | .bool b => v = .bl b
  | .int i => v = .int i
  | .str x => v = .str x
  | .list ds => ∃ a xs, v = .ref a ∧ LstAt H a xs ∧ RdA H Z xs ds
  | .tuple ds => ∃ a xs, v = .ref a ∧ TupAt H a xs ∧ RdA H Z xs ds
  | .dict es => ∃ a, v = .ref a ∧ ((∃ kvs, H a = some (.dK kvs) ∧ RdE H Z (kvs.map eK) es) ∨ ∃ kvs, kvs ≠ [] ∧ H a = some (.dT kvs) ∧ RdE H Z (kvs.map eT) es)
section
variable {H : Hp} {Z : Addr → Prop} {v : V} {d : D} {vs : List V} {ds : List D}
theorem Rd.vw (h : Rd H Z v d) : Vw H Z v d := by
  cases h with
  | non => rfl
  | bl b => rfl
  | int i => rfl
  | str x => rfl
  | lst f r => exact ⟨_, _, rfl, f.elim (fun z => .inl z.2) .inr, r⟩
  | tup e r => exact ⟨_, _, rfl, e, r⟩
  | dK z e r => exact ⟨_, rfl, .inl ⟨_, e, r⟩⟩
  | dT z n e r => exact ⟨_, rfl, .inr ⟨_, n, e, r⟩⟩
theorem ownA_F : ∀ {vs : List V} {ds : List D} {fp : List Addr}, OwnA (Own H Z .F) vs ds fp → RdA H Z vs ds
  | _, _, _, .nil => .nil
  | _, _, _, .cons h t => .cons h.1 (ownA_F t)
theorem ownE_F : ∀ {vs : List (D × V)} {ds : List (D × D)} {fp : List Addr}, OwnE (Own H Z .F) vs ds fp → RdE H Z vs ds
  | _, _, _, .nil => .nil
  | _, _, _, .cons h t => .cons h.1 (ownE_F t)
theorem rdA_own : ∀ {vs : List V} {ds : List D}, RdA H Z vs ds → OwnA (Own H Z .F) vs ds []
  | _, _, .nil => .nil
  | _, _, .cons h t => .cons (f := []) ⟨h, rfl⟩ (rdA_own t)
theorem rdE_own : ∀ {vs : List (D × V)} {ds : List (D × D)}, RdE H Z vs ds → OwnE (Own H Z .F) vs ds []
  | _, _, .nil => .nil
  | _, _, .cons h t => .cons (f := []) ⟨h, rfl⟩ (rdE_own t)
/-- the modes of what may be looked at -/
def flatM (m : Md) : Bool := decide (m = .F) || decide (m = .O .F)
theorem Own.vw {m : Md} {f : List Addr} (h : Own H Z m v d f) (hm : flatM m = true) : Vw H Z v d := by
  cases m with
  | F => exact h.1.vw
  | O m =>
    cases m with
    | O m => cases hm
    | F =>
      obtain ⟨a, fs, rfl, _, h⟩ := h
      rcases h with ⟨xs, ds, h1, rfl, h3⟩ | ⟨xs, ds, h1, rfl, h3⟩ | ⟨xs, ds, n, h1, rfl, h3⟩
      · exact ⟨a, xs, rfl, .inl h1, ownA_F h3⟩
      · exact ⟨a, rfl, .inl ⟨_, h1, ownE_F h3⟩⟩
      · exact ⟨a, rfl, .inr ⟨_, n, h1, ownE_F h3⟩⟩
theorem RdA.length : ∀ {vs : List V} {ds : List D}, RdA H Z vs ds → vs.length = ds.length
  | _, _, .nil => rfl
  | _, _, .cons _ t => congrArg (· + 1) t.length
theorem RdE.length : ∀ {vs : List (D × V)} {ds : List (D × D)}, RdE H Z vs ds → vs.length = ds.length
  | _, _, .nil => rfl
  | _, _, .cons _ t => congrArg (· + 1) t.length
theorem RdA.get : ∀ {vs : List V} {ds : List D} {i : Nat} {d : D}, RdA H Z vs ds → ds[i]? = some d → ∃ v, vs[i]? = some v ∧ Rd H Z v d
  | _, _, _, _, .nil, e => by simp at e
  | _, _, 0, _, .cons h _, e => by simp at e; subst e; exact ⟨_, rfl, h⟩
  | _, _, i + 1, _, .cons _ t, e => by
    obtain ⟨u, h1, h2⟩ := t.get (i := i) (by simpa using e)
    exact ⟨u, by simpa using h1, h2⟩
theorem RdA.getV : ∀ {vs : List V} {ds : List D} {i : Nat} {v : V}, RdA H Z vs ds → vs[i]? = some v → ∃ d, ds[i]? = some d ∧ Rd H Z v d
  | _, _, _, _, .nil, e => by simp at e
  | _, _, 0, _, .cons h _, e => by simp at e; subst e; exact ⟨_, rfl, h⟩
  | _, _, i + 1, _, .cons _ t, e => by
    obtain ⟨u, h1, h2⟩ := t.getV (i := i) (by simpa using e)
    exact ⟨u, by simpa using h1, h2⟩
theorem RdA.append : ∀ {vs ws : List V} {ds es : List D}, RdA H Z vs ds → RdA H Z ws es → RdA H Z (vs ++ ws) (ds ++ es)
  | _, _, _, _, .nil, s => s
  | _, _, _, _, .cons h t, s => .cons h (t.append s)
theorem RdA.take : ∀ {vs : List V} {ds : List D} (n : Nat), RdA H Z vs ds → RdA H Z (vs.take n) (ds.take n)
  | _, _, 0, _ => .nil
  | _, _, _ + 1, .nil => .nil
  | _, _, n + 1, .cons h t => .cons h (t.take n)
theorem RdA.drop : ∀ {vs : List V} {ds : List D} (n : Nat), RdA H Z vs ds → RdA H Z (vs.drop n) (ds.drop n)
  | _, _, 0, r => r
  | _, _, _ + 1, .nil => .nil
  | _, _, n + 1, .cons _ t => t.drop n
theorem RdA.reverse {vs : List V} {ds : List D} (r : RdA H Z vs ds) : RdA H Z vs.reverse ds.reverse := by
  induction ds generalizing vs with
  | nil => cases r; exact .nil
  | cons d ds ih =>
    cases r with
    | cons h t =>
      rw [List.reverse_cons, List.reverse_cons]
      exact (ih t).append (.cons h .nil)
theorem RdA.rep {vs : List V} {ds : List D} (r : RdA H Z vs ds) : ∀ n : Nat, RdA H Z (List.replicate n vs).flatten (List.replicate n ds).flatten
  | 0 => .nil
  | n + 1 => by
    rw [List.replicate_succ, List.replicate_succ, List.flatten_cons, List.flatten_cons]
    exact r.append (r.rep n)
/-! ### as data of the library -/
mutual
theorem Rd.dp {K : PySem.W.Frag} : ∀ {v : V} {d : D}, Rd H Z v d → d.canLay0 = true → Dp K H v d
  | _, _, .non, _ => .non
  | _, _, .bl b, _ => .bl b
  | _, _, .int i, _ => .int i
  | _, _, .str x, _ => .str x
  | _, _, .lst f r, k => .lst (LstAt.sq (f.elim (fun z => .inl z.2) .inr)) (RdA.dp r (by simpa [PyData.canLay0] using k))
  | _, _, .tup e r, k => .tup e.sq (RdA.dp r (by simpa [PyData.canLay0] using k))
  | _, _, .dK _ _ _, k => by simp [PyData.canLay0] at k
  | _, _, .dT _ _ _ _, k => by simp [PyData.canLay0] at k
theorem RdA.dp {K : PySem.W.Frag} : ∀ {vs : List V} {ds : List D}, RdA H Z vs ds → PyData.canLayAll0 ds = true → DpAll K H vs ds
  | _, _, .nil, _ => .nil
  | _, _, .cons h t, k => by
    have k2 := Bool.and_eq_true_iff.mp (by simpa [PyData.canLayAll0] using k)
    exact .cons (Rd.dp h k2.1) (RdA.dp t k2.2)
end
theorem Vw.dp {K : PySem.W.Frag} (h : Vw H Z v d) (k : okD d = true) : Dp K H v d := by
  have k0 : d.canLay0 = true := SeqAt.canLay_of_shaped k
  cases d with
  | none => cases (show v = .non from h); exact .non
  | bool b => cases (show v = .bl b from h); exact .bl b
  | int i => cases (show v = .int i from h); exact .int i
  | str x => cases (show v = .str x from h); exact .str x
  | list ds =>
    obtain ⟨a, xs, rfl, l, r⟩ := h
    exact .lst l.sq (r.dp (by simpa [PyData.canLay0] using k0))
  | tuple ds =>
    obtain ⟨a, xs, rfl, l, r⟩ := h
    exact .tup l.sq (r.dp (by simpa [PyData.canLay0] using k0))
  | dict es => simp [PyData.canLay0] at k0
inductive VwA (H : Hp) (Z : Addr → Prop) : List V → List D → Prop
  | nil : VwA H Z [] []
  | cons {v : V} {vs : List V} {d : D} {ds : List D} : Vw H Z v d → VwA H Z vs ds → VwA H Z (v :: vs) (d :: ds)
theorem VwA.one {d : D} (h : VwA H Z vs [d]) : ∃ v, vs = [v] ∧ Vw H Z v d := by
  cases h with
  | cons h t => cases t; exact ⟨_, rfl, h⟩
theorem VwA.two {d e : D} (h : VwA H Z vs [d, e]) : ∃ v w, vs = [v, w] ∧ Vw H Z v d ∧ Vw H Z w e := by
  cases h with
  | cons h t => obtain ⟨w, rfl, h2⟩ := t.one; exact ⟨_, _, rfl, h, h2⟩
theorem VwA.three {d e f : D} (h : VwA H Z vs [d, e, f]) : ∃ u v w, vs = [u, v, w] ∧ Vw H Z u d ∧ Vw H Z v e ∧ Vw H Z w f := by
  cases h with
  | cons h t => obtain ⟨w, w', rfl, h2, h3⟩ := t.two; exact ⟨_, _, _, rfl, h, h2, h3⟩
end
/-! ### results -/
def rmO (fr : Bool) : Md := if fr then .O .F else .F
section
variable {H : Hp} {Z : Addr → Prop} {fp : List Addr} {roots : List Root} {Q : VK} {fr : Bool}
abbrev Wish (roots : List Root) (Q : VK) (d : D) (m : Md) : Prop := ∀ v H', Rep ((v, d, m) :: roots) H' → Q v H'
theorem RepZ.rep (z : RepZ roots H Z fp) : Rep roots H := ⟨Z, fp, z⟩
theorem res_rd {v : V} {d : D} (z : RepZ roots H Z fp) (r : Rd H Z v d) (q : Wish roots Q d .F) : Q v H := q v H (z.cons_rd r)
theorem res_newL {xs : List V} {ds : List D} (z : RepZ roots H Z fp) (r : RdA H Z xs ds) (q : Wish roots Q (.list ds) (rmO fr)) : ∀ p, H p = none → Q (.ref p) (upd H p (.lst xs)) := fun p hp => by
  have w : Rep ((.ref p, .list ds, .O .F) :: roots) (upd H p (.lst xs)) := z.push hp ⟨p, [], rfl, rfl, .inl ⟨xs, ds, upd_same, rfl, rdA_own (r.mono (ext_new hp) fun _ h => h)⟩⟩
  cases fr with
  | true => exact q _ _ w
  | false => exact q _ _ w.freeze
theorem RepZ.pushT {xs : List V} {ds : List D} (z : RepZ roots H Z fp) {p : Addr} {o : Obj} (hp : H p = none) (n : o.dict = none) (r : RdA H Z xs ds) : Rep ((.ref p, .tuple ds, .F) :: roots) (upd H p (.frz o (.tup xs))) :=
  (z.alloc (o := .frz o (.tup xs)) hp).cons_rd (.tup ⟨o, n, upd_same⟩ (r.mono (ext_new hp) fun _ h => h))
/-- a new tuple, its object told -/
def NewT (H : Hp) (Q : VK) (xs : List V) : Prop := ∀ (p : Addr) (o : Obj), H p = none → o.dict = none → Q (.ref p) (upd H p (.frz o (.tup xs)))
theorem res_newT {xs : List V} {ds : List D} (z : RepZ roots H Z fp) (r : RdA H Z xs ds) (q : Wish roots Q (.tuple ds) .F) : NewT H Q xs := fun p o hp n =>
  q _ _ (z.pushT hp n r)
end
/-! ### the operations by values -/
/-- what r asks holds where the operation has a meaning -/
def OpD (o : Op) (r : List V → Hp → VK → Prop) : Prop := ∀ (fr : Bool) (roots : List Root) (H : Hp) (Z : Addr → Prop) (fp : List Addr) (vs : List V) (ds : List D) (d : D) (Q : VK),
  RepZ roots H Z fp → VwA H Z vs ds → opR o fr ds = some d → Wish roots Q d (rmO fr) → r vs H Q
def u1 (r : V → Hp → VK → Prop) : List V → Hp → VK → Prop := fun vs H Q => match vs with
  | [x] => r x H Q
  | _ => False
def u2 (r : R2) : List V → Hp → VK → Prop := fun vs H Q => match vs with
  | [x, y] => r x y H Q
  | _ => False
theorem opR_F {o : Op} {ds : List D} {d : D} {fr : Bool} (e : opR o fr ds = some d) (n : ∀ d, opF o ds = some d → frD o d = false) : opF o ds = some d ∧ fr = false := by
  unfold opR at e
  cases h : opF o ds with
  | none => rw [h] at e; cases e
  | some d' =>
    rw [h] at e
    cases fr with
    | false => exact ⟨e, rfl⟩
    | true =>
      rw [Option.bind_some, if_pos rfl, n d' h] at e
      cases e
theorem opR_any {o : Op} {ds : List D} {d : D} {fr : Bool} (e : opR o fr ds = some d) : opF o ds = some d := by
  unfold opR at e
  cases h : opF o ds with
  | none => rw [h] at e; cases e
  | some d' =>
    rw [h] at e
    cases fr with
    | false => exact e
    | true =>
      rw [Option.bind_some, if_pos rfl] at e
      split at e
      · exact e
      · cases e
theorem opR_fr {o : Op} {ds : List D} {d : D} (e : opR o true ds = some d) : frD o d = true := by
  unfold opR at e
  cases h : opF o ds with
  | none => rw [h] at e; cases e
  | some d' =>
    rw [h, Option.bind_some, if_pos rfl] at e
    split at e
    · cases e; assumption
    · cases e
/-- a result that is no new list -/
theorem wish_F {o : Op} {ds : List D} {d : D} {fr : Bool} {roots : List Root} {Q : VK} (e : opR o fr ds = some d) (n : frD o d = false) (q : Wish roots Q d (rmO fr)) : Wish roots Q d .F := by
  cases fr with
  | false => exact q
  | true => rw [opR_fr e] at n; cases n
section
variable {K : PySem.W.Frag} {H : Hp} {Z : Addr → Prop} {v : V}
theorem vw_int {i : Int} (h : Vw H Z v (.int i)) : v = .int i := h
theorem vw_bl {i : Bool} (h : Vw H Z v (.bool i)) : v = .bl i := h
theorem vw_str {i : Str} (h : Vw H Z v (.str i)) : v = .str i := h
end
theorem len1 {α : Type} {ds : List D} {f : D → Option α} {d : α} {g : List D → Option α} (e : g ds = some d) (h : ∀ a, g [a] = f a) (n : ∀ l, (∀ a, l ≠ [a]) → g l = none) : ∃ a, ds = [a] ∧ f a = some d := by
  match ds, e with
  | [], e => rw [n [] (fun _ z => nomatch z)] at e; cases e
  | [a], e => exact ⟨a, rfl, (h a).symm.trans e⟩
  | a :: b :: r, e => rw [n _ (fun _ z => by cases z)] at e; cases e
/-- lists -/
def rCatL : R2 := fun x y H Q => ∃ l b xs zs, x = .ref l ∧ y = .ref b ∧ LstAt H l xs ∧ LstAt H b zs ∧ xs.length + zs.length ≤ sizeLine ∧ ∀ p, H p = none → Q (.ref p) (upd H p (.lst (xs ++ zs)))
def rRepL : R2 := fun x y H Q => ∃ l k xs, x = .ref l ∧ y = .int k ∧ LstAt H l xs ∧ -(2 ^ 63) ≤ k ∧ k < 2 ^ 63 ∧ xs.length * k.toNat ≤ sizeLine ∧
  ∀ p, H p = none → Q (.ref p) (upd H p (.lst (List.replicate k.toNat xs).flatten))
section
variable {X : Cx} {pins : List (Addr × Obj)} {σ : L2.St} {H : Hp} {s : Shared} {a : Addr} {xs : List V}
theorem lst_obj (I : Inv X pins σ H s) (h : LstAt H a xs) : xs.length ≤ sizeLine ∧ ∃ (its : List Value) (n : Nat), Vals xs its ∧ xs.length = its.length ∧ s.heap.get? a = some { cls := .type "list", data := .seq its.toArray n } := by
  obtain ⟨z, its, n, r, e⟩ := (show L2.Rd H a (.lst xs) from h).ok I.hok
  exact ⟨z, its, n, r, r.length, e⟩
theorem op_catL : OpR X (binaryOp .Add) rCatL := by
  intro pins s σ H x y v u Q I rx ry ⟨l, b, xs, zs, e1, e2, hH, hB, hz, q⟩
  subst e1 e2
  cases rx
  cases ry
  obtain ⟨_, its, n, r, hl, e⟩ := lst_obj I hH
  obtain ⟨_, its2, n2, r2, hl2, e2⟩ := lst_obj I hB
  refine PySem.P.add_list e e2 ?_ (by simp only [List.size_toArray]; omega)
  have ea : its.toArray ++ its2.toArray = (its ++ its2).toArray := List.append_toArray ..
  rw [ea]
  have ne := I.fresh
  exact ⟨.ref _, _, I.lnew (t' := s.toks) (r.append r2) (by simpa using hz), rfl, q _ ne⟩
theorem op_repL : OpR X (binaryOp .Mult) rRepL := by
  intro pins s σ H x y v u Q I rx ry ⟨l, k, xs, e1, e2, hH, b1, b2, hz, q⟩
  subst e1 e2
  cases rx
  obtain ⟨t, rfl⟩ := ry
  obtain ⟨_, its, n, r, hl, e⟩ := lst_obj I hH
  have sz1 : its.toArray.size * k.toNat ≤ sizeLine := by simpa only [List.size_toArray, ← hl] using hz
  have sz2 : ¬ its.toArray.size * k.toNat > (2 ^ 63 - 1) / 8 := by
    have z : (sizeLine : Nat) ≤ (2 ^ 63 - 1) / 8 := by decide
    exact Nat.not_lt.mpr (Nat.le_trans sz1 z)
  have sz3 : ¬ (!Builtin.List.listFitsIndex k) = true := by simp [fitsIndex_both b1 b2]
  have sz4 : ¬ Builtin.List.listTooLong (its.toArray.size * k.toNat) = true := by rw [notLongL sz1]; decide
  have all : ∀ m : Nat, List.foldl (fun x1 x2 => x1 ++ x2) #[] (List.replicate m its.toArray) = (List.replicate m its).flatten.toArray := fun m => by simpa using foldl_rep its m []
  have new : List.foldl (fun x1 x2 => x1 ++ x2) #[] (List.replicate (if its.toArray.isEmpty = true then 0 else k.toNat) its.toArray) = (List.replicate k.toNat its).flatten.toArray := by
    rw [all]
    cases its <;> simp
  have z : Inv X pins σ _ _ := I.lnew (t' := s.toks) (r.rep k.toNat) (by simpa only [PyProof.Rows.lm_len_rep_flat, Nat.mul_comm] using hz)
  refine wpAny_binaryOp_repeat_ref (T := "list") (U := "int") (by decide) ⟨_, e, rfl⟩ (typeIs_int · k t) noFill_list_mul F.fills_int_mul F.slot_int_rmul repeat_list F.slot_int_index.lookup ?_
  refine call_meets F.slot_int_rmul (typeIs_int s k t) F.entry_int_rmul (F.args_int_rmul_2 _ _) (int___rmul___int_list k t l its.toArray n) ⟨e, rfl, ⟨_, e, rfl⟩, ?_⟩
  refine call_meets F.slot_list_mul ⟨_, e, rfl⟩ F.entry_list_mul (F.args_list_mul_2 _ _) (AutoListH.list___mul___list_int_3 l its.toArray n k t sz3 sz2 sz4) ⟨e, ?_⟩
  rw [new]
  exact ⟨.ref _, _, z, rfl, q _ I.fresh⟩
/-- a < b by the data -/
def rLtD (K : PySem.W.Frag) (sw : Bool) : R2 := fun x y H Q => ∃ d e, Dp K H x d ∧ Dp K H y e ∧ okD d = true ∧ okD e = true ∧ W.alike d e = true ∧ d ≠ .none ∧ Q (.bl (if sw then W.dataLt e d else W.dataLt d e)) H
theorem op_ltD (hu : X.A.units + 64 < cLine) : OpR X (compareOp .Lt) (rLtD X.K false) := by
  intro pins s σ H x y v u Q I rx ry ⟨d, e, hd, he, sd, se, al, nn, q⟩
  obtain ⟨as, r1⟩ := Dp.reads I d x v hd rx
  obtain ⟨bs, r2⟩ := Dp.reads I e y u he ry
  exact W.lt_data r1 r2 al nn (SeqAt.room_of_shaped sd hu) ⟨.bl _, H, I, rfl, q⟩
theorem op_gtD (hu : X.A.units + 64 < cLine) : OpR X (compareOp .Gt) (rLtD X.K true) := by
  intro pins s σ H x y v u Q I rx ry ⟨d, e, hd, he, sd, se, al, nn, q⟩
  obtain ⟨as, r1⟩ := Dp.reads I d x v hd rx
  obtain ⟨bs, r2⟩ := Dp.reads I e y u he ry
  exact W.gt_data r1 r2 al nn (SeqAt.room_of_shaped sd hu) ⟨.bl _, H, I, rfl, q⟩
/-- x in a list, a tuple, by the data -/
def rInS (K : PySem.W.Frag) (neg : Bool) : R2 := fun x y H Q => ∃ d ds, Dp K H x d ∧ (Dp K H y (.list ds) ∨ Dp K H y (.tuple ds)) ∧ okD d = true ∧ okD (.list ds) = true ∧ Q (.bl (if neg then !(ds.any fun z => PyData.eqv z d) else ds.any fun z => PyData.eqv z d)) H
theorem room_in {A : Around} {d : D} {ds : List D} (sd : okD d = true) (hu : A.units + 66 < cLine) : A.units + 1 + min (PyData.depthAll ds) d.depth < cLine := by
  have h1 := SeqAt.depth_of_shaped sd
  have h2 : min (PyData.depthAll ds) d.depth ≤ d.depth := Nat.min_le_right _ _
  omega
theorem layAll {ds : List D} (h : okD (.list ds) = true) : PyData.canLayAll0 ds = true := by
  have k := SeqAt.canLay_of_shaped h
  simpa [PyData.canLay0] using k
theorem op_inS (hu : X.A.units + 66 < cLine) : OpR X (compareOp .In) (rInS X.K false) := by
  intro pins s σ H x y v u Q I rx ry ⟨d, ds, hd, he, sd, se, q⟩
  obtain ⟨as, r1⟩ := Dp.reads I d x v hd rx
  rcases he with he | he
  · obtain ⟨bs, r2⟩ := Dp.reads I _ y u he ry
    exact SeqAt.in_list_reads r2 r1 (layAll se) (SeqAt.canLay_of_shaped sd) (room_in sd hu) ⟨.bl _, H, I, rfl, q⟩
  · obtain ⟨bs, r2⟩ := Dp.reads I _ y u he ry
    exact SeqAt.in_tuple_reads r2 r1 (layAll se) (SeqAt.canLay_of_shaped sd) (room_in sd hu) ⟨.bl _, H, I, rfl, q⟩
theorem op_notInS (hu : X.A.units + 66 < cLine) : OpR X (compareOp .NotIn) (rInS X.K true) := by
  intro pins s σ H x y v u Q I rx ry ⟨d, ds, hd, he, sd, se, q⟩
  obtain ⟨as, r1⟩ := Dp.reads I d x v hd rx
  rcases he with he | he
  · obtain ⟨bs, r2⟩ := Dp.reads I _ y u he ry
    exact SeqAt.notIn_list_reads r2 r1 (layAll se) (SeqAt.canLay_of_shaped sd) (room_in sd hu) ⟨.bl _, H, I, rfl, q⟩
  · obtain ⟨bs, r2⟩ := Dp.reads I _ y u he ry
    exact SeqAt.notIn_tuple_reads r2 r1 (layAll se) (SeqAt.canLay_of_shaped sd) (room_in sd hu) ⟨.bl _, H, I, rfl, q⟩
/-- x in d, x not in d, for a dict -/
def rInDc (neg : Bool) : R2 := fun x y H Q => ∃ a o, y = .ref a ∧ DGet H a x o ∧ Q (.bl (if neg then !o.isSome else o.isSome)) H
theorem op_inDc (hu : X.A.units + 66 < cLine) : OpR X (compareOp .In) (rInDc false) := by
  intro pins s σ H x y v u Q I rx ry ⟨a, o, e, g, q⟩
  subst e
  cases ry
  exact d_in (by omega) I g rx fun s3 I3 => ⟨.bl o.isSome, H, I3, rfl, q⟩
theorem op_notInDc (hu : X.A.units + 66 < cLine) : OpR X (compareOp .NotIn) (rInDc true) := by
  intro pins s σ H x y v u Q I rx ry ⟨a, o, e, g, q⟩
  subst e
  cases ry
  exact d_notIn (by omega) I g rx fun s3 I3 => ⟨.bl (!o.isSome), H, I3, rfl, q⟩
/-- min(xs), max(xs) by the data -/
def rMinS (K : PySem.W.Frag) (mx : Bool) : List V → Hp → VK → Prop := fun vs H Q => ∃ a x r xs, vs = [.ref a] ∧ (LstAt H a xs ∨ TupAt H a xs) ∧ DpAll K H xs (x :: r) ∧ okD (.list (x :: r)) = true ∧ W.AlikeAll (x :: r) ∧
  ∀ (i : Nat) v d, xs[i]? = some v → (x :: r)[i]? = some d → d = (if mx then W.maxD x r else W.minD x r) → Q v H
theorem DpAll.getV {K : PySem.W.Frag} : ∀ {vs : List V} {ds : List D} {i : Nat} {v : V}, DpAll K H vs ds → vs[i]? = some v → ∃ d, ds[i]? = some d ∧ Dp K H v d
  | _, _, _, _, .nil, e => by simp at e
  | _, _, 0, _, .cons h _, e => by simp at e; subst e; exact ⟨_, rfl, h⟩
  | _, _, i + 1, _, .cons _ t, e => by
    obtain ⟨u, h1, h2⟩ := DpAll.getV (i := i) t (by simpa using e)
    exact ⟨u, by simpa using h1, h2⟩
theorem canLay_mem : ∀ {ds : List D} {d : D}, PyData.canLayAll0 ds = true → d ∈ ds → d.canLay0 = true
  | _ :: _, _, h, m => by
    obtain ⟨h1, h2⟩ := Bool.and_eq_true_iff.mp (by simpa [PyData.canLayAll0] using h)
    rcases List.mem_cons.mp m with rfl | m
    · exact h1
    · exact canLay_mem h2 m
theorem vals_getU : ∀ {xs : List V} {us : List Value} {i : Nat} {u : Value}, Vals xs us → us[i]? = some u → ∃ x, xs[i]? = some x ∧ RelV x u
  | _, _, _, _, .nil, e => by simp at e
  | _, _, 0, _, .cons r _, e => by simp at e; subst e; exact ⟨_, rfl, r⟩
  | _, _, i + 1, _, .cons _ t, e => by
    obtain ⟨x, h1, h2⟩ := vals_getU (i := i) t (by simpa using e)
    exact ⟨x, by simpa using h1, h2⟩
theorem cr_minS (mx : Bool) (hc : X.calm = true) (hu : X.A.units + 66 < cLine) : CallR X (.builtin (if mx then "max" else "min")) (rMinS X.K mx) := by
  intro pins s σ H vs us Q I rv ⟨a, x, r, xs, e1, ha, hd, ok, al, q⟩
  subst e1
  rw [Vals.ref1 rv]
  have hh := I.ok.hd hc
  have hdep : X.A.units + 1 + PyData.depthAll (x :: r) < cLine := by
    have h1 := SeqAt.depth_of_shaped ok
    simp only [PyData.depth] at h1
    omega
  have fin : ∀ (its : List Value), Vals xs its → ∀ (i : Nat) v h' tk bs, its.toArray[i]? = some v → Reads h' v (if mx then W.maxD x r else W.minD x r) bs → (∀ b o, s.heap.get? b = some o → h'.get? b = some o) → EP X pins σ Q v { s with heap := h', toks := tk } := by
    intro its r1 i v h' tk bs hi hr hk
    obtain ⟨w, hw, rw⟩ := vals_getU r1 (by simpa using hi)
    obtain ⟨d, hd1, hd2⟩ := DpAll.getV hd hw
    obtain ⟨cs, hrd⟩ := Dp.reads I d w v hd2 rw
    have hlay := canLay_mem (layAll ok) (List.mem_of_getElem? hd1)
    have e := SeqAt.Reads.unique d _ v cs bs hlay (PyProof.Rows.Reads.keeps hk hrd) hr
    exact ⟨w, H, I.kept hk, rw, q i w d hw hd1 e⟩
  rcases ha with ha | ha
  · obtain ⟨_, its, n, r1, _, e⟩ := lst_obj I ha
    obtain ⟨as, hra⟩ := Dp.readsAll I (x :: r) xs its hd r1
    cases mx with
    | false => exact W.min_list_data hh ⟨_, e, rfl, _, rfl⟩ hra al hdep (fin its r1)
    | true => exact W.max_list_data hh ⟨_, e, rfl, _, rfl⟩ hra al hdep (fin its r1)
  · obtain ⟨its, r1, p, _⟩ := I.tuple (show SqT X.K H a xs from ha.sq)
    obtain ⟨as, hra⟩ := Dp.readsAll I (x :: r) xs its hd r1
    cases mx with
    | false => exact W.min_tuple_data hh p hra al hdep (fin its r1)
    | true => exact W.max_tuple_data hh p hra al hdep (fin its r1)
/-- repr of data; no guard runs -/
def rRepr (K : PySem.W.Frag) : List V → Hp → VK → Prop := fun vs H Q => ∃ v d, vs = [v] ∧ Dp K H v d ∧ okD d = true ∧ d.showable = true ∧ d.shown.length ≤ sizeLine ∧ Q (.str d.shown) H
theorem noDict : ∀ {d : D}, d.canLay0 = true → d.hasDict = false := by
  have all : ∀ (d : D), d.canLay0 = true → d.hasDict = false := by
    intro d
    refine PyData.rec (motive_1 := fun d => d.canLay0 = true → d.hasDict = false) (motive_2 := fun ds => PyData.canLayAll0 ds = true → PyData.hasDictAll ds = false) (motive_3 := fun _ => True) (motive_4 := fun _ => True)
      ?_ ?_ ?_ ?_ ?_ ?_ ?_ ?_ ?_ ?_ ?_ ?_ d
    all_goals first
      | (intros; trivial)
      | (intros; simp_all [PyData.canLay0, PyData.hasDict, PyData.canLayAll0, PyData.hasDictAll])
  intro d
  exact all d
theorem cr_repr (hg : X.A.guards = some []) (hu : X.A.units + 66 < cLine) : CallR X (.builtin "repr") (rRepr X.K) := by
  intro pins s σ H vs us Q I rv ⟨v, d, e1, hd, ok, sh, sz, q⟩
  subst e1
  obtain ⟨u, rfl, ru⟩ := vals1 rv
  obtain ⟨as, hr⟩ := Dp.reads I d v u hd ru
  have hdep : X.A.units + (d.depth + 1) < cLine := by
    have h1 := SeqAt.depth_of_shaped ok
    omega
  have nd := noDict (SeqAt.canLay_of_shaped ok)
  have fin : ∀ h' tk, (∀ b o, s.heap.get? b = some o → h'.get? b = some o) → ∀ t, EP X pins σ Q (.str d.shown t) { s with heap := h', toks := tk } := fun h' tk hk t => ⟨.str d.shown, H, I.kept hk, ⟨t, rfl⟩, q⟩
  cases hr with
  | none => exact PySem.P.repr_of_none (by simpa [PyData.shown] using fin s.heap _ (fun _ _ e => e) _)
  | bool b => exact PySem.P.repr_of_bool (by simpa [PyData.shown] using fin s.heap _ (fun _ _ e => e) _)
  | int i t => exact PySem.P.repr_of_int (by simpa [PyData.showable] using sh) (by simpa [PyData.shown] using fin s.heap _ (fun _ _ e => e) _)
  | str x t => exact PySem.P.repr_of_str (by simpa [PyData.shown] using fin s.heap _ (fun _ _ e => e) _) (by simpa only [PyData.shown] using sz)
  | list h1 h2 h3 h4 => exact repr_of_reads' (.list h1 h2 h3 h4) sh (fun e => by rw [nd] at e; cases e) hg hdep (fun _ _ e => e) (fun h' t tk hk => fin h' tk hk t) sz
  | tuple h1 h2 h3 h4 => exact repr_of_reads' (.tuple h1 h2 h3 h4) sh (fun e => by rw [nd] at e; cases e) hg hdep (fun _ _ e => e) (fun h' t tk hk => fin h' tk hk t) sz
  | dict h1 h2 h3 h4 h5 => simp [PyData.hasDict] at nd
end
end Dt
end
section
set_option Elab.async false
set_option linter.all false
set_option maxRecDepth 100000
set_option maxHeartbeats 4000000
/-! New tuples, their objects told. -/
namespace Dt
open PySem PySem.Spec PyProof.Rows L2
section
variable {X : Cx} {pins : List (Addr × Obj)} {σ : L2.St} {H : Hp} {s : Shared}
/-- a tuple pushed -/
theorem newF {xs : List V} {its : List Value} {t' : Nat} (I : L2.Inv X pins σ H s) (r : Vals xs its) (hz : xs.length ≤ sizeLine) :
    L2.Inv X pins σ (upd H s.heap.objs.size (.frz { cls := .type "tuple", data := .seq its.toArray } (.tup xs))) { s with heap := s.heap.push { cls := .type "tuple", data := .seq its.toArray }, toks := t' } :=
  I.laid (o := .frz { cls := .type "tuple", data := .seq its.toArray } (.tup xs)) (fun b ob q => Heap.get?_push_of_some _ q) (Nat.le_refl _) ⟨Heap.get?_push_size _ rfl, hz, its, r, IsTup.new _ _⟩
def rCatF (K : PySem.W.Frag) : R2 := fun x y H Q => ∃ a b xs ys, x = .ref a ∧ y = .ref b ∧ SqT K H a xs ∧ SqT K H b ys ∧ xs.length + ys.length ≤ sizeLine ∧
  (xs = [] → Q (.ref b) H) ∧ (xs ≠ [] → ys = [] → Q (.ref a) H) ∧ (xs ≠ [] → ys ≠ [] → NewT H Q (xs ++ ys))
theorem op_catF : OpR X (binaryOp .Add) (rCatF X.K) := by
  intro pins s σ H x y v u Q I rx ry h
  obtain ⟨a, b, xs, ys, rfl, rfl, ha, hb, hz, q0, q1, q2⟩ := h
  cases rx
  cases ry
  obtain ⟨its, r1, p1, _⟩ := I.tuple ha
  obtain ⟨its2, r2, p2, _⟩ := I.tuple hb
  by_cases hx : xs = []
  · subst hx
    cases r1
    exact cat_tup0 p1 p2 ⟨.ref b, H, I, rfl, q0 rfl⟩
  · refine HT.cat_tup p1 p2 (fun z => hx (r1.nil_iff.mp z)) (fun z => ⟨.ref a, H, I, rfl, q1 hx (r2.nil_iff.mp z)⟩) (fun z => ?_) (by rw [← r1.length, ← r2.length]; exact hz)
    refine ⟨.ref s.heap.objs.size, _, newF (t' := s.toks) I (r1.append r2) (by rw [List.length_append]; exact hz), rfl, q2 hx (fun w => z (r2.nil_iff.mpr w)) _ _ (I.hok.fresh (Nat.le_refl _)) rfl⟩
def rSlF (K : PySem.W.Frag) : V → Option Int → Option Int → Hp → VK → Prop := fun x lo hi H Q => ∃ a xs, x = .ref a ∧ SqT K H a xs ∧
  (HT.sIx xs.length 0 lo = 0 ∧ HT.sIx xs.length xs.length hi = xs.length → Q (.ref a) H) ∧ (¬ (HT.sIx xs.length 0 lo = 0 ∧ HT.sIx xs.length xs.length hi = xs.length) → NewT H Q (cutV xs lo hi))
theorem sl_tupF : SlR X (rSlF X.K) := by
  intro pins s σ H x v vl vu lo hi sl Q I rx hs pl pu h
  obtain ⟨a, xs, rfl, hx, q1, q2⟩ := h
  cases rx
  obtain ⟨its, r, ht, hz⟩ := I.tuple hx
  have hlen : its.toArray.size = xs.length := by rw [List.size_toArray]; exact r.length.symm
  refine ⟨"tuple", _, PyProof.Rows.slot_tuple_getitem.lookup, ht.typeIs, ?_⟩
  by_cases hw : HT.sIx xs.length 0 lo = 0 ∧ HT.sIx xs.length xs.length hi = xs.length
  · exact getItem_tuple_whole ht hs pl pu (by rw [hlen]; exact hw) ⟨.ref a, H, I, rfl, q1 hw⟩
  · refine HT.getItem_tuple_cut ht hs pl pu (by rw [hlen]; exact hw) ?_ (by rw [hlen]; exact hz)
    rw [hlen]
    exact ⟨.ref s.heap.objs.size, _, newF (t' := s.toks) I ((r.drop (HT.sIx xs.length 0 lo)).take (HT.sIx xs.length xs.length hi - HT.sIx xs.length 0 lo)) (Nat.le_trans (cutV_length xs lo hi) hz), rfl, q2 hw _ _ (I.hok.fresh (Nat.le_refl _)) rfl⟩
def tTupF (t : TA) : TE := fun σ H Q => t σ H fun xs H1 => xs.length ≤ sizeLine ∧ NewT H1 Q xs
theorem pe_tupF {es : List Expr} {t : TA} {x1 : Nat} {pos : Pos} (h : PA X es t) : PE X (.Tuple es x1 pos) (tTupF t) := by
  refine ⟨fun pins s σ H Q I hq => ?_⟩
  refine wpAny_Tuple_spliced (thn (h.run pos pins s σ H _ I hq) fun us s1 ⟨xs, H1, I1, r, z, q⟩ => ⟨by rw [← r.length]; exact z, ?_⟩)
  exact ⟨.ref s1.heap.objs.size, _, newF (t' := s1.toks) I1 r z, rfl, q _ _ (I1.hok.fresh (Nat.le_refl _)) rfl⟩
def rTupleOf (K : PySem.W.Frag) : List V → Hp → VK → Prop := fun xs H Q => ∃ p ys, xs = [.ref p] ∧ ((SqL K H p ys ∧ NewT H Q ys) ∨ (SqT K H p ys ∧ Q (.ref p) H))
theorem call_tuple_F : CallR X (.type "tuple") (rTupleOf X.K) := by
  intro pins s σ H xs us Q I r h
  obtain ⟨p, ys, rfl, h⟩ := h
  obtain ⟨u, rfl, rx⟩ := vals1 r
  cases rx
  rcases h with ⟨hq, q⟩ | ⟨hq, q⟩
  · obtain ⟨its, r', pl, hz⟩ := I.list hq
    have hlen := r'.length
    refine call_tuple_list pl.isList (fun h' kp => ?_) (by simp only [List.size_toArray] <;> omega)
    have I1 : L2.Inv X pins σ H { s with heap := h' } := I.kept (t' := s.toks) kp
    exact ⟨.ref h'.objs.size, _, newF (t' := s.toks) I1 r' hz, rfl, q _ _ (I1.hok.fresh (Nat.le_refl _)) rfl⟩
  · obtain ⟨its, r', pl, hz⟩ := I.tuple hq
    exact call_tuple_same pl ⟨.ref p, H, I, rfl, q⟩
end
end Dt
end
section
set_option Elab.async false
set_option linter.all false
set_option maxRecDepth 100000
set_option maxHeartbeats 4000000
/-! Each operation: what its rule asks holds where it has a meaning. -/
namespace Dt
open PySem PySem.Spec PyProof.Rows L2
def OpD1 (o : Op) (r : V → Hp → VK → Prop) : Prop := OpD o (u1 r)
def OpD2 (o : Op) (r : R2) : Prop := OpD o (u2 r)
theorem one_of {ds : List D} {d : D} {o : Op} (e : opF o ds = some d) (n2 : ∀ a b, opF o [a, b] = none) (n3 : ∀ a b c, opF o [a, b, c] = none) : ∃ a, ds = [a] ∧ opF o [a] = some d := by
  match ds, e with
  | [], e => cases e
  | [a], e => exact ⟨a, rfl, e⟩
  | [a, b], e => rw [n2] at e; cases e
  | [a, b, c], e => rw [n3] at e; cases e
  | a :: b :: c :: f :: r, e => cases e
theorem two_of {ds : List D} {d : D} {o : Op} (e : opF o ds = some d) (n2 : ∀ a, opF o [a] = none) (n3 : ∀ a b c, opF o [a, b, c] = none) : ∃ a b, ds = [a, b] ∧ opF o [a, b] = some d := by
  match ds, e with
  | [], e => cases e
  | [a], e => rw [n2] at e; cases e
  | [a, b], e => exact ⟨a, b, rfl, e⟩
  | [a, b, c], e => rw [n3] at e; cases e
  | a :: b :: c :: f :: r, e => cases e
/-- a rule of one operand -/
theorem OpD1.mk {o : Op} {r : V → Hp → VK → Prop} (n2 : ∀ a b, opF o [a, b] = none) (n3 : ∀ a b c, opF o [a, b, c] = none)
    (k : ∀ (fr : Bool) (roots : List Root) (H : Hp) (Z : Addr → Prop) (fp : List Addr) (v : V) (a d : D) (Q : VK), RepZ roots H Z fp → Vw H Z v a → opF o [a] = some d → (frD o d = false → Wish roots Q d .F) → Wish roots Q d (rmO fr) → r v H Q) : OpD1 o r := by
  intro fr roots H Z fp vs ds d Q z hv e q
  obtain ⟨a, rfl, e'⟩ := one_of (opR_any e) n2 n3
  obtain ⟨v, rfl, h⟩ := hv.one
  exact k fr roots H Z fp v a d Q z h e' (fun n => wish_F e n q) q
theorem OpD2.mk {o : Op} {r : R2} (n2 : ∀ a, opF o [a] = none) (n3 : ∀ a b c, opF o [a, b, c] = none)
    (k : ∀ (fr : Bool) (roots : List Root) (H : Hp) (Z : Addr → Prop) (fp : List Addr) (v w : V) (a b d : D) (Q : VK), RepZ roots H Z fp → Vw H Z v a → Vw H Z w b → opF o [a, b] = some d → (frD o d = false → Wish roots Q d .F) → Wish roots Q d (rmO fr) → r v w H Q) : OpD2 o r := by
  intro fr roots H Z fp vs ds d Q z hv e q
  obtain ⟨a, b, rfl, e'⟩ := two_of (opR_any e) n2 n3
  obtain ⟨v, w, rfl, h, h2⟩ := hv.two
  exact k fr roots H Z fp v w a b d Q z h h2 e' (fun n => wish_F e n q) q
section
variable {K : PySem.W.Frag}
def rAddS : R2 := fun x y H Q => ∃ i j, x = .str i ∧ y = .str j ∧ i.length + j.length ≤ sizeLine ∧ Q (.str (i ++ j)) H
def orR (r r' : R2) : R2 := fun x y H Q => r x y H Q ∨ r' x y H Q
def orC (r r' : List V → Hp → VK → Prop) : List V → Hp → VK → Prop := fun xs H Q => r xs H Q ∨ r' xs H Q
theorem od_add : OpD2 .add (orR (orR (orR (rI0 fun i j => .int (i + j)) rAddS) rCatL) (rCatF K)) := by
  refine OpD2.mk (fun _ => rfl) (fun _ _ _ => rfl) fun fr roots H Z fp v w a b d Q z hv hw e qF q => ?_
  have e : fAdd a b = some d := e
  unfold fAdd at e
  split at e
  · cases e
    cases vw_int hv; cases vw_int hw
    exact .inl (.inl (.inl ⟨_, _, rfl, rfl, res_rd z (.int _) (qF rfl)⟩))
  · cases vw_str hv; cases vw_str hw
    split at e
    · cases e
      exact .inl (.inl (.inr ⟨_, _, rfl, rfl, by assumption, res_rd z (.str _) (qF rfl)⟩))
    · cases e
  · rename_i xs ys
    obtain ⟨l, us, rfl, hl, r1⟩ := hv
    obtain ⟨b, ws, rfl, hb, r2⟩ := hw
    split at e
    · rename_i hz
      cases e
      exact .inl (.inr ⟨l, b, us, ws, rfl, rfl, hl, hb, by rw [r1.length, r2.length]; exact hz, res_newL z (r1.append r2) q⟩)
    · cases e
  · rename_i xs ys
    obtain ⟨l, us, rfl, hl, r1⟩ := hv
    obtain ⟨b, ws, rfl, hb, r2⟩ := hw
    split at e
    · rename_i hz
      cases e
      have q' := qF rfl
      refine .inr ⟨l, b, us, ws, rfl, rfl, hl.sq, hb.sq, by rw [r1.length, r2.length]; exact hz, fun e1 => ?_, fun _ e2 => ?_, fun _ _ => res_newT z (r1.append r2) q'⟩
      · subst e1; cases r1; exact res_rd z (.tup hb r2) q'
      · subst e2; cases r2; rw [List.append_nil] at q'; exact res_rd z (.tup hl r1) q'
    · cases e
  · cases e
theorem od_sub : OpD2 .sub (rI0 fun i j => .int (i - j)) := by
  refine OpD2.mk (fun _ => rfl) (fun _ _ _ => rfl) fun fr roots H Z fp v w a b d Q z hv hw e qF q => ?_
  have e : fSub a b = some d := e
  unfold fSub at e
  split at e
  · cases e
    cases vw_int hv; cases vw_int hw
    exact ⟨_, _, rfl, rfl, res_rd z (.int _) (qF rfl)⟩
  · cases e
theorem od_mul : OpD2 .mul (orR (rI CMul fun i j => .int (i * j)) rRepL) := by
  refine OpD2.mk (fun _ => rfl) (fun _ _ _ => rfl) fun fr roots H Z fp v w a b d Q z hv hw e qF q => ?_
  have e : fMul a b = some d := e
  unfold fMul at e
  split at e
  · split at e
    · rename_i hz
      cases e
      cases vw_int hv; cases vw_int hw
      exact .inl ⟨_, _, rfl, rfl, hz, res_rd z (.int _) (qF rfl)⟩
    · cases e
  · split at e
    · rename_i hz
      cases e
      cases vw_int hw
      obtain ⟨l, us, rfl, hl, r1⟩ := hv
      exact .inr ⟨l, _, us, rfl, rfl, hl, hz.1, hz.2.1, by rw [r1.length]; exact hz.2.2, res_newL z (r1.rep _) q⟩
    · cases e
  · cases e
theorem od_fdiv : OpD2 .fdiv (rI CDivN fun i j => .int (i.fdiv j)) := by
  refine OpD2.mk (fun _ => rfl) (fun _ _ _ => rfl) fun fr roots H Z fp v w a b d Q z hv hw e qF q => ?_
  have e : fDiv a b = some d := e
  unfold fDiv at e
  split at e
  · split at e
    · rename_i hz
      cases e
      cases vw_int hv; cases vw_int hw
      exact ⟨_, _, rfl, rfl, hz, res_rd z (.int _) (qF rfl)⟩
    · cases e
  · cases e
theorem od_mod : OpD2 .mod (rI (fun _ j => j ≠ 0) fun i j => .int (i.fmod j)) := by
  refine OpD2.mk (fun _ => rfl) (fun _ _ _ => rfl) fun fr roots H Z fp v w a b d Q z hv hw e qF q => ?_
  have e : fMod a b = some d := e
  unfold fMod at e
  split at e
  · split at e
    · rename_i hz
      cases e
      cases vw_int hv; cases vw_int hw
      exact ⟨_, _, rfl, rfl, hz, res_rd z (.int _) (qF rfl)⟩
    · cases e
  · cases e
theorem od_pow : OpD2 .pow (rI CPow fun i j => .int (i ^ j.toNat)) := by
  refine OpD2.mk (fun _ => rfl) (fun _ _ _ => rfl) fun fr roots H Z fp v w a b d Q z hv hw e qF q => ?_
  have e : fPow a b = some d := e
  unfold fPow at e
  split at e
  · split at e
    · rename_i hz
      cases e
      cases vw_int hv; cases vw_int hw
      exact ⟨_, _, rfl, rfl, hz, res_rd z (.int _) (qF rfl)⟩
    · cases e
  · cases e
theorem od_neg : OpD1 .neg (rU fun i => .int (-i)) := by
  refine OpD1.mk (fun _ _ => rfl) (fun _ _ _ => rfl) fun fr roots H Z fp v a d Q z hv e qF q => ?_
  have e : fNeg a = some d := e
  unfold fNeg at e
  split at e
  · cases e
    cases vw_int hv
    exact ⟨_, rfl, res_rd z (.int _) (qF rfl)⟩
  · cases e
theorem dBool_some {o : Option Bool} {d : D} (e : dBool o = some d) : ∃ b, o = some b ∧ d = .bool b := by
  cases o with
  | none => cases e
  | some b => exact ⟨b, rfl, (Option.some.inj e).symm⟩
theorem dEq_some {a b : D} {c : Bool} (e : dEq a b = some c) : okD a = true ∧ okD b = true ∧ c = PyData.eqv a b := by
  unfold dEq at e
  split at e
  · rename_i h
    obtain ⟨h1, h2⟩ := Bool.and_eq_true_iff.mp h
    exact ⟨h1, h2, (Option.some.inj e).symm⟩
  · cases e
theorem od_eq : OpD2 .eq (rEqD K) := by
  refine OpD2.mk (fun _ => rfl) (fun _ _ _ => rfl) fun fr roots H Z fp v w a b d Q z hv hw e qF q => ?_
  obtain ⟨c, e1, rfl⟩ := dBool_some e
  obtain ⟨h1, h2, rfl⟩ := dEq_some e1
  exact ⟨a, b, hv.dp h1, hw.dp h2, h1, h2, res_rd z (.bl _) (qF rfl)⟩
theorem od_ne : OpD2 .ne (rNeD K) := by
  refine OpD2.mk (fun _ => rfl) (fun _ _ _ => rfl) fun fr roots H Z fp v w a b d Q z hv hw e qF q => ?_
  obtain ⟨c, e1, rfl⟩ := dBool_some e
  obtain ⟨c', e2, rfl⟩ := Option.map_eq_some_iff.mp e1
  obtain ⟨h1, h2, rfl⟩ := dEq_some e2
  exact ⟨a, b, hv.dp h1, hw.dp h2, h1, h2, res_rd z (.bl _) (qF rfl)⟩
theorem and4 {a b c d : Bool} (h : (a && b && c && d) = true) : a = true ∧ b = true ∧ c = true ∧ d = true := by
  simp only [Bool.and_eq_true] at h
  exact ⟨h.1.1.1, h.1.1.2, h.1.2, h.2⟩
theorem od_lt : OpD2 .lt (orR (rI0 fun i j => .bl (decide (i < j))) (rLtD K false)) := by
  refine OpD2.mk (fun _ => rfl) (fun _ _ _ => rfl) fun fr roots H Z fp v w a b d Q z hv hw e qF q => ?_
  obtain ⟨c, e1, rfl⟩ := dBool_some e
  unfold dLt at e1
  split at e1
  · cases e1
    cases vw_int hv; cases vw_int hw
    exact .inl ⟨_, _, rfl, rfl, res_rd z (.bl _) (qF rfl)⟩
  · split at e1
    · rename_i h
      cases e1
      obtain ⟨h1, h2, h3, h4⟩ := and4 h
      exact .inr ⟨a, b, hv.dp h1, hw.dp h2, h1, h2, h3, fun e => by (subst e; cases h4), res_rd z (.bl _) (qF rfl)⟩
    · cases e1
theorem od_gt : OpD2 .gt (orR (rI0 fun i j => .bl (decide (j < i))) (rLtD K true)) := by
  refine OpD2.mk (fun _ => rfl) (fun _ _ _ => rfl) fun fr roots H Z fp v w a b d Q z hv hw e qF q => ?_
  obtain ⟨c, e1, rfl⟩ := dBool_some e
  unfold dGt at e1
  split at e1
  · cases e1
    cases vw_int hv; cases vw_int hw
    exact .inl ⟨_, _, rfl, rfl, res_rd z (.bl _) (qF rfl)⟩
  · split at e1
    · rename_i h
      cases e1
      obtain ⟨h1, h2, h3, h4⟩ := and4 h
      exact .inr ⟨a, b, hv.dp h1, hw.dp h2, h1, h2, h3, fun e => by (subst e; cases h4), res_rd z (.bl _) (qF rfl)⟩
    · cases e1
theorem od_le : OpD2 .le (rI0 fun i j => .bl (decide (i ≤ j))) := by
  refine OpD2.mk (fun _ => rfl) (fun _ _ _ => rfl) fun fr roots H Z fp v w a b d Q z hv hw e qF q => ?_
  obtain ⟨c, e1, rfl⟩ := dBool_some e
  unfold dLe at e1
  split at e1
  · cases e1
    cases vw_int hv; cases vw_int hw
    exact ⟨_, _, rfl, rfl, res_rd z (.bl _) (qF rfl)⟩
  · cases e1
theorem od_ge : OpD2 .ge (rI0 fun i j => .bl (decide (j ≤ i))) := by
  refine OpD2.mk (fun _ => rfl) (fun _ _ _ => rfl) fun fr roots H Z fp v w a b d Q z hv hw e qF q => ?_
  obtain ⟨c, e1, rfl⟩ := dBool_some e
  unfold dLe at e1
  split at e1
  · cases e1
    cases vw_int hv; cases vw_int hw
    exact ⟨_, _, rfl, rfl, res_rd z (.bl _) (qF rfl)⟩
  · cases e1
/-- a key by its data -/
theorem toK_v {H : Hp} {Z : Addr → Prop} {v : V} {d : D} {k : Key} (h : Vw H Z v d) (e : toK d = some k) : v = kV k ∧ d = kD k := by
  unfold toK at e
  split at e
  · cases e; exact ⟨vw_int h, rfl⟩
  · cases e; exact ⟨vw_str h, rfl⟩
  · cases e
theorem toKs_v {H : Hp} {Z : Addr → Prop} : ∀ {vs : List V} {ds : List D} {ks : List Key}, RdA H Z vs ds → toKs ds = some ks → vs = ks.map kV ∧ ds = ks.map kD
  | _, _, _, .nil, e => by cases e; exact ⟨rfl, rfl⟩
  | _, _, _, .cons h t, e => by
    unfold toKs at e
    obtain ⟨k, e1, e2⟩ := Option.bind_eq_some_iff.mp e
    obtain ⟨ks, e3, rfl⟩ := Option.map_eq_some_iff.mp e2
    obtain ⟨rfl, rfl⟩ := toK_v h.vw e1
    obtain ⟨rfl, rfl⟩ := toKs_v t e3
    exact ⟨rfl, rfl⟩
theorem toKK_v {H : Hp} {Z : Addr → Prop} {v : V} {d : D} {k : KK} (h : Vw H Z v d) (e : toKK d = some k) : ∃ x, k = .k x ∧ v = kV x ∧ d = kD x := by
  unfold toKK at e
  split at e
  · cases e
  · obtain ⟨x, e1, rfl⟩ := Option.map_eq_some_iff.mp e
    obtain ⟨h1, h2⟩ := toK_v h e1
    exact ⟨x, rfl, h1, h2⟩
theorem toK_kD (x : Key) : toK (kD x) = some x := by cases x <;> rfl
theorem toKs_kD : ∀ xs : List Key, toKs (xs.map kD) = some xs
  | [] => rfl
  | x :: xs => by simp [toKs, toK_kD, toKs_kD xs]
theorem toKK_kD (x : Key) : toKK (kD x) = some (.k x) := by cases x <;> rfl
/-- what a dict of int and text keys holds at a key -/
theorem dGet_K {H : Hp} {Z : Addr → Prop} : ∀ {kvs : List (Key × V)} {es : List (D × D)} (k : Key), RdE H Z (kvs.map eK) es →
    (∃ v d, valV kvs k = some v ∧ dGet es (.k k) = some d ∧ Rd H Z v d) ∨ (valV kvs k = none ∧ dGet es (.k k) = none)
  | [], _, k, r => by cases r; exact .inr ⟨rfl, rfl⟩
  | (k', v) :: kvs, _, k, r => by
    cases r with
    | @cons _ _ _ d ds h t =>
      by_cases e : k' = k
      · subst e
        refine .inl ⟨v, d, by simp [valV], ?_, h⟩
        simp [dGet, keyIsD, toKK_kD]
      · have h1 : valV ((k', v) :: kvs) k = valV kvs k := by simp [valV, List.find?_cons, e]
        have h2 : dGet ((kD k', d) :: ds) (.k k) = dGet ds (.k k) := by simp [dGet, keyIsD, List.find?_cons, toKK_kD, e]
        rw [h1]
        show (∃ v d', _ ∧ dGet ((kD k', d) :: ds) (.k k) = some d' ∧ _) ∨ (_ ∧ dGet ((kD k', d) :: ds) (.k k) = none)
        rw [h2]
        exact dGet_K k t
theorem dGet_TK {H : Hp} {Z : Addr → Prop} : ∀ {kvs : List (List Key × V)} {es : List (D × D)} (k : Key), RdE H Z (kvs.map eT) es → dGet es (.k k) = none
  | [], _, k, r => by cases r; rfl
  | (k', v) :: kvs, _, k, r => by
    cases r with
    | @cons _ _ _ d ds h t =>
      have h2 : dGet ((.tuple (k'.map kD), d) :: ds) (.k k) = dGet ds (.k k) := by simp [dGet, keyIsD, List.find?_cons, toKK]
      show dGet ((.tuple (k'.map kD), d) :: ds) (.k k) = none
      rw [h2]
      exact dGet_TK k t
end
end Dt
end
section
set_option Elab.async false
set_option linter.all false
set_option maxRecDepth 100000
set_option maxHeartbeats 4000000
/-! The rest of the operations. -/
namespace Dt
open PySem PySem.Spec PyProof.Rows L2
theorem RdA.vwa {H : Hp} {Z : Addr → Prop} {a : Addr} {xs : List V} {ds : List D} (h : LstAt H a xs) (r : RdA H Z xs ds) : Vw H Z (.ref a) (.list ds) := ⟨a, xs, rfl, h, r⟩
section
variable {X : Cx}
/-! ### is None, is True -/
def rIsN : V → Hp → VK → Prop := fun x H Q => Q (.bl (decide (x = .non))) H
def rNotN : V → Hp → VK → Prop := fun x H Q => Q (.bl (!decide (x = .non))) H
theorem vw_none {H : Hp} {Z : Addr → Prop} {v : V} {a : D} (h : Vw H Z v a) : decide (v = .non) = isNone a := by
  cases a with
  | none => cases (show v = .non from h); rfl
  | bool b => cases (show v = .bl b from h); rfl
  | int b => cases (show v = .int b from h); rfl
  | str b => cases (show v = .str b from h); rfl
  | list ds => obtain ⟨a, xs, rfl, _⟩ := h; rfl
  | tuple ds => obtain ⟨a, xs, rfl, _⟩ := h; rfl
  | dict ds => obtain ⟨a, rfl, _⟩ := h; rfl
theorem od_isN : OpD1 .isN rIsN := by
  refine OpD1.mk (fun _ _ => rfl) (fun _ _ _ => rfl) fun fr roots H Z fp v a d Q z hv e qF q => ?_
  cases (Option.some.inj (show some (PyData.bool (isNone a)) = some d from e))
  show Q (.bl (decide (v = .non))) H
  rw [vw_none hv]
  exact res_rd z (.bl _) (qF rfl)
theorem od_notN : OpD1 .notN rNotN := by
  refine OpD1.mk (fun _ _ => rfl) (fun _ _ _ => rfl) fun fr roots H Z fp v a d Q z hv e qF q => ?_
  cases (Option.some.inj (show some (PyData.bool (!isNone a)) = some d from e))
  show Q (.bl (!decide (v = .non))) H
  rw [vw_none hv]
  exact res_rd z (.bl _) (qF rfl)
theorem od_isB : OpD2 .isB rIsB := by
  refine OpD2.mk (fun _ => rfl) (fun _ _ _ => rfl) fun fr roots H Z fp v w a b d Q z hv hw e qF q => ?_
  obtain ⟨c, e1, rfl⟩ := dBool_some e
  unfold fIsB at e1
  split at e1
  · cases e1
    cases vw_bl hv; cases vw_bl hw
    refine ⟨_, _, rfl, rfl, ?_⟩
    rw [← Bool.beq_eq_decide_eq]
    exact res_rd z (.bl _) (qF rfl)
  · cases e1
theorem od_notB : OpD2 .notB rNotB := by
  refine OpD2.mk (fun _ => rfl) (fun _ _ _ => rfl) fun fr roots H Z fp v w a b d Q z hv hw e qF q => ?_
  obtain ⟨c, e1, rfl⟩ := dBool_some e
  obtain ⟨c', e2, rfl⟩ := Option.map_eq_some_iff.mp e1
  unfold fIsB at e2
  split at e2
  · cases e2
    cases vw_bl hv; cases vw_bl hw
    refine ⟨_, _, rfl, rfl, ?_⟩
    rw [← Bool.beq_eq_decide_eq]
    exact res_rd z (.bl _) (qF rfl)
  · cases e2
/-! ### in -/
theorem Vw.dpL {K : PySem.W.Frag} {H : Hp} {Z : Addr → Prop} {v : V} {ds : List D} (h : Vw H Z v (.list ds) ∨ Vw H Z v (.tuple ds)) (k : okD (.list ds) = true ∨ okD (.tuple ds) = true) : Dp K H v (.list ds) ∨ Dp K H v (.tuple ds) := by
  have k0 : PyData.canLayAll0 ds = true := by
    rcases k with k | k
    · exact layAll k
    · have := SeqAt.canLay_of_shaped k
      simpa [PyData.canLay0] using this
  rcases h with ⟨a, xs, rfl, l, r⟩ | ⟨a, xs, rfl, l, r⟩
  · exact .inl (.lst l.sq (r.dp k0))
  · exact .inr (.tup l.sq (r.dp k0))
theorem okD_tl {ds : List D} : okD (.tuple ds) = okD (.list ds) := by
  unfold okD
  unfold SeqAt.shaped
  first | rfl | simp [SeqAt.shaped]
theorem key_get {H : Hp} {Z : Addr → Prop} {v w : V} {x : D} {es : List (D × D)} {k : KK} (hx : Vw H Z v x) (hd : Vw H Z w (.dict es)) (e : toKK x = some k) (ok : kindOk es k = true) :
    ∃ a o, w = .ref a ∧ DGet H a v o ∧ ((o = none ∧ dGet es k = none) ∨ ∃ u d, o = some u ∧ dGet es k = some d ∧ L2.Rd H a (.lst []) = L2.Rd H a (.lst []) ∧ Dt.Rd H Z u d) := by
  obtain ⟨a, rfl, hd⟩ := hd
  obtain ⟨y, rfl, rfl, rfl⟩ := toKK_v hx e
  rcases hd with ⟨kvs, h1, r⟩ | ⟨kvs, n, h1, r⟩
  · refine ⟨a, _, rfl, .k h1, ?_⟩
    rcases dGet_K y r with ⟨u, d, e1, e2, r2⟩ | ⟨e1, e2⟩
    · exact .inr ⟨u, d, e1, e2, rfl, r2⟩
    · exact .inl ⟨e1, e2⟩
  · exfalso
    cases kvs with
    | nil => exact n rfl
    | cons p r1 =>
      obtain ⟨ky, vy⟩ := p
      cases r
      cases ok
theorem dIn_some {x y : D} {c : Bool} (e : dIn x y = some c) : (∃ ds, (y = .list ds ∨ y = .tuple ds) ∧ okD x = true ∧ okD (.list ds) = true ∧ c = ds.any fun z => PyData.eqv z x) ∨
    ∃ es k, y = .dict es ∧ toKK x = some k ∧ kindOk es k = true ∧ c = (dGet es k).isSome := by
  unfold dIn at e
  split at e
  · rename_i ds
    split at e
    · rename_i h
      obtain ⟨h1, h2⟩ := Bool.and_eq_true_iff.mp h
      exact .inl ⟨ds, .inl rfl, h1, h2, (Option.some.inj e).symm⟩
    · cases e
  · rename_i ds
    split at e
    · rename_i h
      obtain ⟨h1, h2⟩ := Bool.and_eq_true_iff.mp h
      exact .inl ⟨ds, .inr rfl, h1, okD_tl ▸ h2, (Option.some.inj e).symm⟩
    · cases e
  · rename_i es
    obtain ⟨k, e1, e2⟩ := Option.bind_eq_some_iff.mp e
    split at e2
    · exact .inr ⟨es, k, rfl, e1, by assumption, (Option.some.inj e2).symm⟩
    · cases e2
  · cases e
theorem in_core {K : PySem.W.Frag} {neg : Bool} {H : Hp} {Z : Addr → Prop} {v w : V} {x y : D} {c : Bool} {Q : VK} (hv : Vw H Z v x) (hw : Vw H Z w y) (e : dIn x y = some c) (q : Q (.bl (if neg then !c else c)) H) :
    orR (rInS K neg) (rInDc neg) v w H Q := by
  rcases dIn_some e with ⟨ds, hy, h1, h2, rfl⟩ | ⟨es, k, rfl, e1, e2, rfl⟩
  · refine .inl ⟨x, ds, hv.dp h1, ?_, h1, h2, q⟩
    rcases hy with rfl | rfl
    · exact Vw.dpL (.inl hw) (.inl h2)
    · exact Vw.dpL (.inr hw) (.inl h2)
  · obtain ⟨a, o, rfl, g, h⟩ := key_get hv hw e1 e2
    refine .inr ⟨a, o, rfl, g, ?_⟩
    rcases h with ⟨rfl, e3⟩ | ⟨u, d, rfl, e3, _⟩
    · rw [e3] at q; exact q
    · rw [e3] at q; exact q
theorem od_isIn {K : PySem.W.Frag} : OpD2 .isIn (orR (rInS K false) (rInDc false)) := by
  refine OpD2.mk (fun _ => rfl) (fun _ _ _ => rfl) fun fr roots H Z fp v w a b d Q z hv hw e qF q => ?_
  obtain ⟨c, e1, rfl⟩ := dBool_some e
  exact in_core hv hw e1 (res_rd z (.bl _) (qF rfl))
theorem od_notIn {K : PySem.W.Frag} : OpD2 .notIn (orR (rInS K true) (rInDc true)) := by
  refine OpD2.mk (fun _ => rfl) (fun _ _ _ => rfl) fun fr roots H Z fp v w a b d Q z hv hw e qF q => ?_
  obtain ⟨c, e1, rfl⟩ := dBool_some e
  obtain ⟨c', e2, rfl⟩ := Option.map_eq_some_iff.mp e1
  exact in_core (neg := true) hv hw e2 (res_rd z (.bl _) (qF rfl))
/-! ### a[b] -/
def rIxD : R2 := fun x y H Q => ∃ a v, x = .ref a ∧ DGet H a y (some v) ∧ Q v H
theorem ix_dict (hu : X.A.units + 1 < cLine) : IxR X rIxD := by
  intro value slice pins s σ H x y v u Q I rx ry ⟨a, z, e, g, q⟩ hs
  subst e
  cases rx
  exact tail_any (dict_typeIs I g) PySem.F.slot_dict_getitem.lookup (d_getItem hu I g ry fun w' s3 I3 rw' => ⟨z, H, I3, rw', q⟩) hs
theorem ixN_eq (n : Nat) (i : Int) : ixD n i = ixN n i := rfl
theorem at_get {H : Hp} {Z : Addr → Prop} {xs : List V} {ds : List D} {i : Int} {d : D} (r : RdA H Z xs ds) (e : atD ds i = some d) : ∃ v, atI xs i = some v ∧ Dt.Rd H Z v d := by
  obtain ⟨j, e1, e2⟩ := Option.bind_eq_some_iff.mp e
  obtain ⟨v, e3, r3⟩ := r.get e2
  refine ⟨v, ?_, r3⟩
  show (ixN xs.length i).bind (fun j => xs[j]?) = some v
  rw [r.length, ← ixN_eq, e1]
  exact e3
theorem od_idx {K : PySem.W.Frag} : OpD2 .idx (orR (rIxL K) (orR (rIxT K) rIxD)) := by
  refine OpD2.mk (fun _ => rfl) (fun _ _ _ => rfl) fun fr roots H Z fp v w a b d Q z hv hw e qF q => ?_
  have e : fIdx a b = some d := e
  have qF : Wish roots Q d .F := qF (by cases d <;> rfl)
  unfold fIdx at e
  split at e
  · cases vw_int hw
    obtain ⟨l, us, rfl, hl, r1⟩ := hv
    obtain ⟨u, e1, r2⟩ := at_get r1 e
    exact .inl ⟨l, us, _, u, rfl, rfl, hl.sq, e1, res_rd z r2 qF⟩
  · cases vw_int hw
    obtain ⟨l, us, rfl, hl, r1⟩ := hv
    obtain ⟨u, e1, r2⟩ := at_get r1 e
    exact .inr (.inl ⟨l, us, _, u, rfl, rfl, hl.sq, e1, res_rd z r2 qF⟩)
  · rename_i es k
    obtain ⟨kk, e1, e2⟩ := Option.bind_eq_some_iff.mp e
    by_cases ok : kindOk es kk = true
    case neg => rw [if_neg ok] at e2; cases e2
    rw [if_pos ok] at e2
    obtain ⟨a, o, rfl, g, h⟩ := key_get hw hv e1 ok
    rcases h with ⟨rfl, e3⟩ | ⟨u, d', rfl, e3, _, r⟩
    · rw [e3] at e2; cases e2
    · rw [e3] at e2; cases e2
      exact .inr (.inr ⟨a, u, rfl, g, res_rd z r qF⟩)
  · cases e
/-! ### a[lo:hi] -/
def rSl (K : PySem.W.Frag) (x : V) (lo hi : Option Int) (H : Hp) (Q : VK) : Prop := rSlL K x lo hi H Q ∨ rSlF K x lo hi H Q
theorem sl_rSl : SlR X (rSl X.K) := sl_list.or sl_tupF
theorem sl_core {K : PySem.W.Frag} {H : Hp} {Z : Addr → Prop} {fp : List Addr} {roots : List Root} {v : V} {a d : D} {lo hi : Option Int} {Q : VK} {fr : Bool} {o : Op} (z : RepZ roots H Z fp) (hv : Vw H Z v a) (e : cutsD a lo hi = some d)
    (qF : frD o d = false → Wish roots Q d .F) (ho : ∀ xs, frD o (.tuple xs) = false) (q : Wish roots Q d (rmO fr)) : rSl K v lo hi H Q := by
  unfold cutsD at e
  split at e
  · rename_i xs
    cases e
    obtain ⟨l, us, rfl, hl, r1⟩ := hv
    refine .inl ⟨l, us, rfl, hl.sq, ?_⟩
    refine res_newL z ?_ q
    unfold cutD L2.cutV
    rw [r1.length]
    exact (r1.drop _).take _
  · rename_i xs
    cases e
    have qF := qF (ho _)
    obtain ⟨l, us, rfl, hl, r1⟩ := hv
    refine .inr ⟨l, us, rfl, hl.sq, fun ⟨h1, h2⟩ => ?_, fun _ => ?_⟩
    · have : cutD xs lo hi = xs := by
        unfold cutD
        rw [← r1.length, h1, h2, List.drop_zero, Nat.sub_zero]
        exact List.take_of_length_le (by rw [r1.length]; exact Nat.le_refl _)
      rw [this] at qF
      exact res_rd z (.tup hl r1) qF
    · refine res_newT z ?_ qF
      unfold cutD L2.cutV
      rw [r1.length]
      exact (r1.drop _).take _
  · cases e
def r3Sl (K : PySem.W.Frag) : List V → Hp → VK → Prop := fun vs H Q => match vs with
  | [x, l, u] => ∃ i j, l = .int i ∧ u = .int j ∧ rSl K x (some i) (some j) H Q
  | _ => False
def r2SlL (K : PySem.W.Frag) : R2 := fun x l H Q => ∃ i, l = .int i ∧ rSl K x (some i) none H Q
def r2SlH (K : PySem.W.Frag) : R2 := fun x l H Q => ∃ i, l = .int i ∧ rSl K x none (some i) H Q
theorem od_sliceL {K : PySem.W.Frag} : OpD2 .sliceL (r2SlL K) := by
  refine OpD2.mk (fun _ => rfl) (fun _ _ _ => rfl) fun fr roots H Z fp v w a b d Q z hv hw e qF q => ?_
  have e : fSliceL a b = some d := e
  unfold fSliceL at e
  split at e
  · cases vw_int hw
    exact ⟨_, rfl, sl_core z hv e qF (fun _ => rfl) q⟩
  · cases e
theorem od_sliceH {K : PySem.W.Frag} : OpD2 .sliceH (r2SlH K) := by
  refine OpD2.mk (fun _ => rfl) (fun _ _ _ => rfl) fun fr roots H Z fp v w a b d Q z hv hw e qF q => ?_
  have e : fSliceH a b = some d := e
  unfold fSliceH at e
  split at e
  · cases vw_int hw
    exact ⟨_, rfl, sl_core z hv e qF (fun _ => rfl) q⟩
  · cases e
theorem od_slice {K : PySem.W.Frag} : OpD .slice (r3Sl K) := by
  intro fr roots H Z fp vs ds d Q z hv e q
  have e1 := opR_any e
  have e2 : ∃ a b c, ds = [a, b, c] ∧ fSlice a b c = some d := by
    match ds, e1 with
    | [], e => cases e
    | [a], e => cases e
    | [a, b], e => cases e
    | [a, b, c], e => exact ⟨a, b, c, rfl, e⟩
    | a :: b :: c :: f :: r, e => cases e
  obtain ⟨a, b, c, rfl, e2⟩ := e2
  obtain ⟨x, l, u, rfl, h1, h2, h3⟩ := hv.three
  unfold fSlice at e2
  split at e2
  · cases vw_int h2
    cases vw_int h3
    exact ⟨_, _, rfl, rfl, sl_core z h1 e2 (fun n => wish_F e n q) (fun _ => rfl) q⟩
  · cases e2
/-- the rules by their parts -/
theorem pe_sl3 {a lo hi : Expr} {ta tl tu : TE} {p2 pos : Pos} (ha : PE X a ta) (hl : PE X lo tl) (hu : PE X hi tu) :
    PE X (.Subscript a (.Slice (some lo) (some hi) none p2) pos) (fun σ H Q => ta σ H fun x H1 => tl σ H1 fun l H2 => tu σ H2 fun u H3 => r3Sl X.K [x, l, u] H3 Q) := by
  refine ⟨fun pins s σ H Q I h => ?_⟩
  refine Subscript_ (thn (ha.run pins s σ H _ I h) fun v s1 ⟨x, H1, I1, r1, q1⟩ => wpAny_Slice ?_)
  rw [evalPart_some]
  refine thn (hl.run pins s1 σ H1 _ I1 q1) fun vl s2 ⟨l, H2, I2, pl, q2⟩ => ?_
  rw [evalPart_some]
  refine thn (hu.run pins s2 σ H2 _ I2 q2) fun vu s3 ⟨u, H3, I3, pu, i, j, e1, e2, q3⟩ => ?_
  rw [evalPart_none]
  refine wpAny_pure ?_
  subst e1 e2
  obtain ⟨t1, rfl⟩ := pl
  obtain ⟨t2, rfl⟩ := pu
  have I4 : Inv X pins σ H3 { s3 with heap := s3.heap.push { cls := .type "slice", data := .fields #[.int i t1, .int j t2, .none] } } := I3.kept (t' := s3.toks) fun b ob q => Heap.get?_push_of_some _ q
  obtain ⟨T, id, hT, ht, hg⟩ := sl_rSl pins _ σ H3 x v (.int i t1) (.int j t2) (some i) (some j) s3.heap.objs.size Q I4 r1 (Heap.IsSliceOf.new ..) (.int i t1) (.int j t2) q3
  exact tail_any (ops := [.ref s3.heap.objs.size, v]) ht hT hg (by with_unfolding_all rfl)
theorem pe_slL {a lo : Expr} {ta tl : TE} {p2 pos : Pos} (ha : PE X a ta) (hl : PE X lo tl) :
    PE X (.Subscript a (.Slice (some lo) none none p2) pos) (tOp (r2SlL X.K) ta tl) := by
  refine ⟨fun pins s σ H Q I h => ?_⟩
  refine Subscript_ (thn (ha.run pins s σ H _ I h) fun v s1 ⟨x, H1, I1, r1, q1⟩ => wpAny_Slice ?_)
  rw [evalPart_some]
  refine thn (hl.run pins s1 σ H1 _ I1 q1) fun vl s2 ⟨l, H2, I2, pl, i, e1, q3⟩ => ?_
  rw [evalPart_none]
  refine wpAny_pure (wpAny_pure ?_)
  subst e1
  obtain ⟨t1, rfl⟩ := pl
  have I4 : Inv X pins σ H2 { s2 with heap := s2.heap.push { cls := .type "slice", data := .fields #[.int i t1, .none, .none] } } := I2.kept (t' := s2.toks) fun b ob q => Heap.get?_push_of_some _ q
  obtain ⟨T, id, hT, ht, hg⟩ := sl_rSl pins _ σ H2 x v (.int i t1) .none (some i) none s2.heap.objs.size Q I4 r1 (Heap.IsSliceOf.new ..) (.int i t1) .none q3
  exact tail_any (ops := [.ref s2.heap.objs.size, v]) ht hT hg (by with_unfolding_all rfl)
theorem pe_slH {a hi : Expr} {ta tl : TE} {p2 pos : Pos} (ha : PE X a ta) (hl : PE X hi tl) :
    PE X (.Subscript a (.Slice none (some hi) none p2) pos) (tOp (r2SlH X.K) ta tl) := by
  refine ⟨fun pins s σ H Q I h => ?_⟩
  refine Subscript_ (thn (ha.run pins s σ H _ I h) fun v s1 ⟨x, H1, I1, r1, q1⟩ => wpAny_Slice ?_)
  rw [evalPart_none]
  refine wpAny_pure ?_
  rw [evalPart_some]
  refine thn (hl.run pins s1 σ H1 _ I1 q1) fun vl s2 ⟨l, H2, I2, pl, i, e1, q3⟩ => ?_
  refine wpAny_pure ?_
  subst e1
  obtain ⟨t1, rfl⟩ := pl
  have I4 : Inv X pins σ H2 { s2 with heap := s2.heap.push { cls := .type "slice", data := .fields #[.none, .int i t1, .none] } } := I2.kept (t' := s2.toks) fun b ob q => Heap.get?_push_of_some _ q
  obtain ⟨T, id, hT, ht, hg⟩ := sl_rSl pins _ σ H2 x v .none (.int i t1) none (some i) s2.heap.objs.size Q I4 r1 (Heap.IsSliceOf.new ..) .none (.int i t1) q3
  exact tail_any (ops := [.ref s2.heap.objs.size, v]) ht hT hg (by with_unfolding_all rfl)
/-! ### a[::-1] -/
def rRev (K : PySem.W.Frag) : V → Hp → VK → Prop := fun x H Q => (∃ a xs, x = .ref a ∧ SqL K H a xs ∧ ∀ p, H p = none → Q (.ref p) (upd H p (.lst xs.reverse))) ∨
  ∃ a xs, x = .ref a ∧ SqT K H a xs ∧ NewT H Q xs.reverse
theorem od_rev {K : PySem.W.Frag} : OpD1 .rev (rRev K) := by
  refine OpD1.mk (fun _ _ => rfl) (fun _ _ _ => rfl) fun fr roots H Z fp v a d Q z hv e qF q => ?_
  have e : fRev a = some d := e
  unfold fRev at e
  split at e
  · cases e
    obtain ⟨l, us, rfl, hl, r1⟩ := hv
    exact .inl ⟨l, us, rfl, hl.sq, res_newL z r1.reverse q⟩
  · cases e
    obtain ⟨l, us, rfl, hl, r1⟩ := hv
    exact .inr ⟨l, us, rfl, hl.sq, res_newT z r1.reverse (qF rfl)⟩
  · cases e
theorem revPlaces (n : Nat) : Builtin.Slice.slicePlaces ((n : Int) - 1) (-1) (-1) = n := by
  unfold Builtin.Slice.slicePlaces
  rw [if_neg (by decide)]
  have e : (- -1 : Int) = 1 := by decide
  rw [e, Int.ediv_one]
  by_cases h : (n : Int) - 1 > -1
  · rw [if_pos h]; omega
  · rw [if_neg h]; omega
theorem revPick (items : Array Value) : ((List.range items.size).filterMap fun (k : Nat) => items[(((items.size : Int) - 1) + (k : Int) * (-1)).toNat]?).toArray = items.toList.reverse.toArray := by
  rw [← PySem.W.krv_pick items]
  unfold slicePick
  rw [PySem.W.krv_bounds]
  show _ = ((sliceRange ((items.size : Int) - 1) (-1) (-1)).filterMap (items[·]?)).toArray
  rw [PySem.W.krv_sliceRange, List.filterMap_map]
  congr 1
  have aux : ∀ (l : List Nat) (f g : Nat → Option Value), (∀ k ∈ l, f k = g k) → l.filterMap f = l.filterMap g := by
    intro l f g
    induction l with
    | nil => intro _; rfl
    | cons x l ih => intro h; rw [List.filterMap_cons, List.filterMap_cons, h x (List.mem_cons_self ..), ih fun k m => h k (List.mem_cons_of_mem _ m)]
  refine aux _ _ _ fun k hk => ?_
  have h := List.mem_range.mp hk
  show items[(((items.size : Int) - 1) + (k : Int) * (-1)).toNat]? = items[items.size - 1 - k]?
  have e : (((items.size : Int) - 1) + (k : Int) * (-1)).toNat = items.size - 1 - k := by omega
  rw [e]
theorem revApplied {prog : Program} {w : World} {A : Around} {E : Value → Shared → Prop} {s : Shared} {sl : Addr} {n : Nat} {vl vu vs : Value} {R : Int × Int × Nat → Shared → Prop} (hs : s.heap.IsSliceOf sl vl vu vs)
    (pl : IsPart vl none) (pu : IsPart vu none) (ps : IsPart vs (some (-1))) (h : R ((n : Int) - 1, -1, n) s) : wpAny (model prog w) A (Builtin.Slice.sliceApplied (.ref sl) (pure (n : Int))) R E s := by
  obtain ⟨os, ho1, ho2, ho3⟩ := hs
  unfold Builtin.Slice.sliceApplied Builtin.Slice.sliceFields
  refine wpAny_bind (wpAny_bind (wpAny_field ho1 ho3 (x := vl) rfl (wpAny_bind (wpAny_field ho1 ho3 (x := vu) rfl (wpAny_bind (wpAny_field ho1 ho3 (x := vs) rfl (wpAny_pure ?_)))))))
  refine wpAny_bind (HT.slicePart_ ps ?_)
  show wpAny _ _ (if ((-1 : Int) == 0) = true then _ else _) _ _ s
  rw [if_neg (by decide)]
  refine wpAny_bind (HT.slicePart_ pl (wpAny_bind (HT.slicePart_ pu (wpAny_bind (wpAny_pure ?_)))))
  show wpAny _ _ (pure ((n : Int) - 1, (-1 : Int), Builtin.Slice.slicePlaces ((n : Int) - 1) (-1) (-1))) _ _ s
  rw [revPlaces]
  exact wpAny_pure h
theorem revTuple {prog : Program} {w : World} {A : Around} {E : Value → Shared → Prop} {s : Shared} {t sl : Addr} {items : Array Value} {vl vu vs : Value} {Q : Value → Shared → Prop} (ht : IsTup s.heap t items) (hs : s.heap.IsSliceOf sl vl vu vs)
    (pl : IsPart vl none) (pu : IsPart vu none) (ps : IsPart vs (some (-1)))
    (h : Q (.ref s.heap.objs.size) { s with heap := s.heap.push { cls := .type "tuple", data := .seq items.toList.reverse.toArray } }) (hsz : items.size ≤ sizeLine) : wpAny (model prog w) A (getItem (.ref t) (.ref sl)) Q E s := by
  obtain ⟨os, ho1, ho2, ho3⟩ := id hs
  have hsz2 : sizeOk (.seq items.toList.reverse.toArray) := by
    show items.toList.reverse.toArray.size ≤ sizeLine
    rw [List.size_toArray, List.length_reverse, Array.length_toList]
    exact hsz
  unfold getItem
  try with_reducible refine wpAny_holding ?_
  first | refine wpAny_bind (wpAny_pure ?_) | skip
  refine wpAny_bind (wpAny_sequenceKey ht.typeIs (by decide) ?_)
  refine wpAny_bind (wpAny_callSpecial?_slot (name := Str.ofString "__getitem__") ht.typeIs PyProof.Rows.slot_tuple_getitem (wpAny_call_entry PyProof.Rows.slot_tuple_getitem ht.typeIs PyProof.Rows.entry_tuple_getitem ?_ (PyProof.Rows.args_tuple_getitem _ _)))
  show wpAny _ _ (Builtin.Tuple.tupleItemsOf (.ref t) >>= _) _ _ s
  refine wpAny_bind (tupleItemsOf_ ht (wpAny_bind (wpAny_typeOf (⟨os, ho1, ho2⟩ : s.TypeIs (.ref sl) "slice") ?_)))
  rw [if_pos (by decide)]
  refine wpAny_bind (revApplied hs pl pu ps ?_)
  have hno : ¬ ((((items.size : Int) - 1) == 0 && (-1 : Int) == 1 && items.size == items.size) = true) := by
    intro q
    rw [Bool.and_eq_true, Bool.and_eq_true] at q
    exact absurd q.1.2 (by decide)
  show wpAny _ _ (if (((items.size : Int) - 1) == 0 && (-1 : Int) == 1 && items.size == items.size) = true then _ else _) _ _ s
  rw [if_neg hno, revPick]
  first
    | exact wpAny_bind (m := Builtin.Tuple.tupleExact _) (wpAny_newObj_type (wpAny_pure ⟨_, rfl, wpAny_pure h⟩) hsz2)
    | exact wpAny_bind (m := Builtin.Tuple.tupleExact _) (wpAny_newObj_type (wpAny_bind (wpAny_pure (wpAny_pure ⟨_, rfl, wpAny_pure h⟩))) hsz2)
    | exact wpAny_bind (wpAny_bind (m := Builtin.Tuple.tupleExact _) (wpAny_newObj_type (wpAny_pure (wpAny_pure ⟨_, rfl, wpAny_pure h⟩)) hsz2))
    | exact wpAny_bind (wpAny_bind (m := Builtin.Tuple.tupleExact _) (wpAny_newObj_type (wpAny_pure ⟨_, rfl, wpAny_pure h⟩) hsz2))
theorem pe_rev {e : Expr} {te : TE} {k : Nat} {p1 p2 p3 pos : Pos} (he : PE X e te) : PE X (.Subscript e (.Slice none none (some (.UnaryOp .USub (.Constant (.int 1) k p1) p2)) p3) pos) (tUn (rRev X.K) te) := by
  refine ⟨fun pins s σ H Q I h => ?_⟩
  refine Subscript_ (thn (he.run pins s σ H _ I h) fun v s1 ⟨x, H1, I1, r1, q1⟩ => wpAny_Slice ?_)
  rw [evalPart_none]
  refine wpAny_pure (wpAny_pure ?_)
  rw [evalPart_some]
  refine thn ((pe_un un_neg pe_int : PE X (.UnaryOp .USub (.Constant (.int 1) k p1) p2) _).run pins s1 σ H1 (fun y H2 => y = .int (-1) ∧ H2 = H1) I1 ⟨1, rfl, rfl, rfl⟩) fun vs s2 ⟨y, H2, I2, r2, e1, e2⟩ => ?_
  subst e1 e2
  obtain ⟨tk, rfl⟩ := r2
  have I5 : Inv X pins σ H2 { s2 with heap := s2.heap.push { cls := .type "slice", data := .fields #[.none, .none, .int (-1) tk] } } := I2.kept (t' := s2.toks) fun b ob q => Heap.get?_push_of_some _ q
  rcases q1 with ⟨a, xs, rfl, hx, q⟩ | ⟨a, xs, rfl, hx, q⟩
  · cases r1
    obtain ⟨its, r, ht, hz⟩ := I5.list hx
    have hlen := r.length
    refine tail_any (ops := [.ref a, .ref s2.heap.objs.size]) ht.isList.typeIs (PySem.slot_list_getitem.lookup) ?_ (by with_unfolding_all rfl)
    refine wpAny_getItem_list_slice ht.isList (Heap.IsSliceOf.new ..) .none .none (.int (-1) tk) (by decide) ?_ (by rw [List.size_toArray]; omega)
    rw [PySem.W.krv_pick]
    exact ⟨.ref _, _, I5.laid (t' := s2.toks) (o := .lst xs.reverse) (fun b ob q => Heap.get?_push_of_some _ q) (Nat.le_refl _) ⟨by rw [List.length_reverse]; exact hz, _, 0, r.reverse, Heap.get?_push_size _ rfl⟩, rfl, q _ (I5.hok.fresh (Nat.le_refl _))⟩
  · cases r1
    obtain ⟨its, r, ht, hz⟩ := I5.tuple hx
    have hlen := r.length
    refine tail_any (ops := [.ref a, .ref s2.heap.objs.size]) ht.typeIs PyProof.Rows.slot_tuple_getitem.lookup ?_ (by with_unfolding_all rfl)
    refine revTuple ht (Heap.IsSliceOf.new ..) .none .none (.int (-1) tk) ?_ (by rw [List.size_toArray]; omega)
    exact ⟨.ref _, _, newF (t' := s2.toks) I5 r.reverse (by rw [List.length_reverse]; exact hz), rfl, q _ _ (I5.hok.fresh (Nat.le_refl _)) rfl⟩
end
end Dt
end
section
set_option Elab.async false
set_option linter.all false
set_option maxRecDepth 100000
set_option maxHeartbeats 4000000
/-! The built-in functions. -/
namespace Dt
open PySem PySem.Spec PyProof.Rows L2
theorem len_le {H : Hp} {Z : Addr → Prop} {xs : List V} {ds : List D} (r : RdA H Z xs ds) : (ds.length : Int) = (xs.length : Int) := by rw [r.length]
section
variable {X : Cx}
def rLen (K : PySem.W.Frag) : List V → Hp → VK → Prop := fun xs H Q => (∃ x n, xs = [x] ∧ LenV K x H n ∧ Q (.int n) H) ∨ (∃ a kvs, xs = [.ref a] ∧ L2.Rd H a (.dK kvs) ∧ Q (.int kvs.length) H) ∨ rLenT xs H Q
theorem cr_len : CallR X (.builtin "len") (rLen X.K) := by
  intro pins s σ H xs us Q I rv h
  rcases h with h | ⟨a, kvs, rfl, e, q⟩ | h
  · exact call_len pins s σ H xs us Q I rv h
  · obtain ⟨u, rfl, rx⟩ := vals1 rv
    cases rx
    exact d_len I e fun t s' I' => ⟨.int kvs.length, H, I', ⟨t, rfl⟩, q⟩
  · exact call_len_dT pins s σ H xs us Q I rv h
def c1 (r : List V → Hp → VK → Prop) : V → Hp → VK → Prop := fun x H Q => r [x] H Q
theorem od_len {K : PySem.W.Frag} : OpD1 .len (c1 (rLen K)) := by
  refine OpD1.mk (fun _ _ => rfl) (fun _ _ _ => rfl) fun fr roots H Z fp v a d Q z hv e qF q => ?_
  have e : fLen a = some d := e
  unfold fLen at e
  split at e
  · cases e
    obtain ⟨l, us, rfl, hl, r1⟩ := hv
    refine .inl ⟨_, _, rfl, .inl ⟨us, hl.sq, rfl⟩, ?_⟩
    rw [r1.length]
    exact res_rd z (.int _) (qF rfl)
  · cases e
    obtain ⟨l, us, rfl, hl, r1⟩ := hv
    refine .inl ⟨_, _, rfl, .inr ⟨us, hl.sq, rfl⟩, ?_⟩
    rw [r1.length]
    exact res_rd z (.int _) (qF rfl)
  · cases e
    obtain ⟨l, rfl, hd⟩ := hv
    rcases hd with ⟨kvs, h1, r⟩ | ⟨kvs, n, h1, r⟩
    · refine .inr (.inl ⟨l, kvs, rfl, .inl h1, ?_⟩)
      have := r.length
      rw [List.length_map] at this
      rw [this]
      exact res_rd z (.int _) (qF rfl)
    · refine .inr (.inr ⟨l, kvs, rfl, h1, ?_⟩)
      have := r.length
      rw [List.length_map] at this
      rw [this]
      exact res_rd z (.int _) (qF rfl)
  · split at e
    · cases e
      cases vw_str hv
      exact .inl ⟨_, _, rfl, ⟨by assumption, rfl⟩, res_rd z (.int _) (qF rfl)⟩
    · cases e
  · cases e
theorem od_int : OpD1 .int (c1 fun xs H Q => (∃ i, xs = [.int i] ∧ Q (.int i) H) ∨ ∃ k, xs = [.bl k] ∧ Q (.int (if k then 1 else 0)) H) := by
  refine OpD1.mk (fun _ _ => rfl) (fun _ _ _ => rfl) fun fr roots H Z fp v a d Q z hv e qF q => ?_
  have e : fInt a = some d := e
  unfold fInt at e
  split at e
  · cases e
    cases vw_int hv
    exact .inl ⟨_, rfl, res_rd z (.int _) (qF rfl)⟩
  · cases e
    cases vw_bl hv
    exact .inr ⟨_, rfl, res_rd z (.int _) (qF rfl)⟩
  · cases e
theorem od_abs : OpD1 .abs (c1 fun xs H Q => ∃ i, xs = [.int i] ∧ Q (.int (if i < 0 then -i else i)) H) := by
  refine OpD1.mk (fun _ _ => rfl) (fun _ _ _ => rfl) fun fr roots H Z fp v a d Q z hv e qF q => ?_
  have e : fAbs a = some d := e
  unfold fAbs at e
  split at e
  · cases e
    cases vw_int hv
    exact ⟨_, rfl, res_rd z (.int _) (qF rfl)⟩
  · cases e
def c2 (r : List V → Hp → VK → Prop) : R2 := fun x y H Q => r [x, y] H Q
theorem od_min2 : OpD2 .min2 (c2 fun xs H Q => ∃ i j, xs = [.int i, .int j] ∧ Q (.int (if j < i then j else i)) H) := by
  refine OpD2.mk (fun _ => rfl) (fun _ _ _ => rfl) fun fr roots H Z fp v w a b d Q z hv hw e qF q => ?_
  have e : fMin2 a b = some d := e
  unfold fMin2 at e
  split at e
  · cases e
    cases vw_int hv; cases vw_int hw
    exact ⟨_, _, rfl, res_rd z (.int _) (qF rfl)⟩
  · cases e
theorem od_max2 : OpD2 .max2 (c2 fun xs H Q => ∃ i j, xs = [.int i, .int j] ∧ Q (.int (if j > i then j else i)) H) := by
  refine OpD2.mk (fun _ => rfl) (fun _ _ _ => rfl) fun fr roots H Z fp v w a b d Q z hv hw e qF q => ?_
  have e : fMax2 a b = some d := e
  unfold fMax2 at e
  split at e
  · cases e
    cases vw_int hv; cases vw_int hw
    exact ⟨_, _, rfl, res_rd z (.int _) (qF rfl)⟩
  · cases e
theorem ord_of {x : D} {r : List D} (h : canOrd (x :: r) = true) : okD (.list (x :: r)) = true ∧ W.AlikeAll (x :: r) := by
  unfold canOrd at h
  simp only [Bool.and_eq_true] at h
  obtain ⟨⟨h1, h2⟩, h3⟩ := h
  refine ⟨h1, fun a ha b hb => List.all_eq_true.mp (List.all_eq_true.mp h2 a ha) b hb, fun a ha e => ?_⟩
  have := List.all_eq_true.mp h3 a ha
  subst e
  cases this
theorem min1_some {a d : D} (e : fMin1 a = some d) : ∃ x r, (a = .list (x :: r) ∨ a = .tuple (x :: r)) ∧ canOrd (x :: r) = true ∧ d = W.minD x r := by
  cases a with
  | list xs =>
    cases xs with
    | nil => cases e
    | cons x r =>
      have e : (if canOrd (x :: r) then some (W.minD x r) else none) = some d := e
      split at e
      · exact ⟨x, r, .inl rfl, by assumption, (Option.some.inj e).symm⟩
      · cases e
  | tuple xs =>
    cases xs with
    | nil => cases e
    | cons x r =>
      have e : (if canOrd (x :: r) then some (W.minD x r) else none) = some d := e
      split at e
      · exact ⟨x, r, .inr rfl, by assumption, (Option.some.inj e).symm⟩
      · cases e
  | _ => cases e
theorem od_min1 {K : PySem.W.Frag} : OpD1 .min1 (c1 (rMinS K false)) := by
  refine OpD1.mk (fun _ _ => rfl) (fun _ _ _ => rfl) fun fr roots H Z fp v a d Q z hv e qF q => ?_
  have qF : Wish roots Q d .F := qF (by cases d <;> rfl)
  obtain ⟨x, r, ha, ok, ed⟩ := min1_some e
  subst ed
  obtain ⟨h1, h2⟩ := ord_of ok
  have fin : ∀ {us : List V}, RdA H Z us (x :: r) → ∀ (i : Nat) u d, us[i]? = some u → (x :: r)[i]? = some d → d = W.minD x r → Q u H := fun r1 i u d hu hd e => by
    obtain ⟨u', e1, r2⟩ := r1.get hd
    rw [hu] at e1
    cases e1
    rw [e] at r2
    exact res_rd z r2 qF
  rcases ha with rfl | rfl
  · obtain ⟨l, us, rfl, hl, r1⟩ := hv
    exact ⟨l, x, r, us, rfl, .inl hl, r1.dp (layAll h1), h1, h2, fin r1⟩
  · obtain ⟨l, us, rfl, hl, r1⟩ := hv
    exact ⟨l, x, r, us, rfl, .inr hl, r1.dp (layAll h1), h1, h2, fin r1⟩
theorem max1_some {a d : D} (e : fMax1 a = some d) : ∃ x r, (a = .list (x :: r) ∨ a = .tuple (x :: r)) ∧ canOrd (x :: r) = true ∧ d = W.maxD x r := by
  cases a with
  | list xs =>
    cases xs with
    | nil => cases e
    | cons x r =>
      have e : (if canOrd (x :: r) then some (W.maxD x r) else none) = some d := e
      split at e
      · exact ⟨x, r, .inl rfl, by assumption, (Option.some.inj e).symm⟩
      · cases e
  | tuple xs =>
    cases xs with
    | nil => cases e
    | cons x r =>
      have e : (if canOrd (x :: r) then some (W.maxD x r) else none) = some d := e
      split at e
      · exact ⟨x, r, .inr rfl, by assumption, (Option.some.inj e).symm⟩
      · cases e
  | _ => cases e
theorem od_max1 {K : PySem.W.Frag} : OpD1 .max1 (c1 (rMinS K true)) := by
  refine OpD1.mk (fun _ _ => rfl) (fun _ _ _ => rfl) fun fr roots H Z fp v a d Q z hv e qF q => ?_
  have qF : Wish roots Q d .F := qF (by cases d <;> rfl)
  obtain ⟨x, r, ha, ok, ed⟩ := max1_some e
  subst ed
  obtain ⟨h1, h2⟩ := ord_of ok
  have fin : ∀ {us : List V}, RdA H Z us (x :: r) → ∀ (i : Nat) u d, us[i]? = some u → (x :: r)[i]? = some d → d = W.maxD x r → Q u H := fun r1 i u d hu hd e => by
    obtain ⟨u', e1, r2⟩ := r1.get hd
    rw [hu] at e1
    cases e1
    rw [e] at r2
    exact res_rd z r2 qF
  rcases ha with rfl | rfl
  · obtain ⟨l, us, rfl, hl, r1⟩ := hv
    exact ⟨l, x, r, us, rfl, .inl hl, r1.dp (layAll h1), h1, h2, fin r1⟩
  · obtain ⟨l, us, rfl, hl, r1⟩ := hv
    exact ⟨l, x, r, us, rfl, .inr hl, r1.dp (layAll h1), h1, h2, fin r1⟩
def rListOf (K : PySem.W.Frag) : List V → Hp → VK → Prop := fun xs H Q => ∃ p ys, xs = [.ref p] ∧ (SqL K H p ys ∨ SqT K H p ys) ∧ ∀ l, H l = none → Q (.ref l) (upd H l (.lst ys))
theorem od_list {K : PySem.W.Frag} : OpD1 .list (c1 (rListOf K)) := by
  refine OpD1.mk (fun _ _ => rfl) (fun _ _ _ => rfl) fun fr roots H Z fp v a d Q z hv e qF q => ?_
  have e : fList a = some d := e
  unfold fList at e
  split at e
  · cases e
    obtain ⟨l, us, rfl, hl, r1⟩ := hv
    exact ⟨l, us, rfl, .inl hl.sq, res_newL z r1 q⟩
  · cases e
    obtain ⟨l, us, rfl, hl, r1⟩ := hv
    exact ⟨l, us, rfl, .inr hl.sq, res_newL z r1 q⟩
  · cases e
theorem od_tuple {K : PySem.W.Frag} : OpD1 .tuple (c1 (rTupleOf K)) := by
  refine OpD1.mk (fun _ _ => rfl) (fun _ _ _ => rfl) fun fr roots H Z fp v a d Q z hv e qF q => ?_
  have e : fTuple a = some d := e
  unfold fTuple at e
  split at e
  · cases e
    obtain ⟨l, us, rfl, hl, r1⟩ := hv
    exact ⟨l, us, rfl, .inl ⟨hl.sq, res_newT z r1 (qF rfl)⟩⟩
  · cases e
    obtain ⟨l, us, rfl, hl, r1⟩ := hv
    exact ⟨l, us, rfl, .inr ⟨hl.sq, res_rd z (.tup hl r1) (qF rfl)⟩⟩
  · cases e
theorem od_repr {K : PySem.W.Frag} : OpD1 .repr (c1 (rRepr K)) := by
  refine OpD1.mk (fun _ _ => rfl) (fun _ _ _ => rfl) fun fr roots H Z fp v a d Q z hv e qF q => ?_
  have e : fRepr a = some d := e
  unfold fRepr at e
  split at e
  · rename_i h
    cases e
    simp only [Bool.and_eq_true, decide_eq_true_eq] at h
    exact ⟨v, a, rfl, hv.dp h.1.1, h.1.1, h.1.2, h.2, res_rd z (.str _) (qF rfl)⟩
  · cases e
theorem bools_of {H : Hp} {Z : Addr → Prop} : ∀ {xs : List V} {ds : List D} {bs : List Bool}, RdA H Z xs ds → boolsOf ds = some bs → xs = bs.map V.bl
  | _, _, _, .nil, e => by cases e; rfl
  | _, _, _, @RdA.cons _ _ v vs d ds h t, e => by
    cases d with
    | bool b =>
      obtain ⟨bs, e1, rfl⟩ := Option.map_eq_some_iff.mp (show (boolsOf ds).map (b :: ·) = some _ from e)
      rw [bools_of t e1, vw_bl h.vw]
      rfl
    | _ => cases e
theorem od_all {K : PySem.W.Frag} : OpD1 .all (c1 (rAll K)) := by
  refine OpD1.mk (fun _ _ => rfl) (fun _ _ _ => rfl) fun fr roots H Z fp v a d Q z hv e qF q => ?_
  have e : fAll a = some d := e
  unfold fAll at e
  split at e
  · obtain ⟨bs, e1, rfl⟩ := Option.map_eq_some_iff.mp e
    obtain ⟨l, us, rfl, hl, r1⟩ := hv
    have := bools_of r1 e1
    subst this
    exact ⟨l, bs, rfl, hl.sq, res_rd z (.bl _) (qF rfl)⟩
  · cases e
theorem od_any {K : PySem.W.Frag} : OpD1 .any (c1 (rAny K)) := by
  refine OpD1.mk (fun _ _ => rfl) (fun _ _ _ => rfl) fun fr roots H Z fp v a d Q z hv e qF q => ?_
  have e : fAny a = some d := e
  unfold fAny at e
  split at e
  · obtain ⟨bs, e1, rfl⟩ := Option.map_eq_some_iff.mp e
    obtain ⟨l, us, rfl, hl, r1⟩ := hv
    have := bools_of r1 e1
    subst this
    exact ⟨l, bs, rfl, hl.sq, res_rd z (.bl _) (qF rfl)⟩
  · cases e
/-! ### isinstance -/
def tyN : D → String
  | .none => "NoneType"
  | .bool _ => "bool"
  | .int _ => "int"
  | .str _ => "str"
  | .list _ => "list"
  | .tuple _ => "tuple"
  | .dict _ => "dict"
theorem Vw.ty {K : PySem.W.Frag} {H : Hp} {Z : Addr → Prop} {v : V} {d : D} (h : Vw H Z v d) : TyX K H v (.type (tyN d)) := by
  cases d with
  | none => cases (show v = .non from h); exact .base .non
  | bool b => cases (show v = .bl b from h); exact .base (.bl b)
  | int b => cases (show v = .int b from h); exact .base (.int b)
  | str b => cases (show v = .str b from h); exact .base (.str b)
  | list ds =>
    obtain ⟨a, xs, rfl, l, _⟩ := h
    rcases l with l | ⟨o, l⟩
    · exact .base (.lst l)
    · exact .base (.frz l)
  | tuple ds => obtain ⟨a, xs, rfl, ⟨o, _, l⟩, _⟩ := h; exact .fTuple l
  | dict ds =>
    obtain ⟨a, rfl, l⟩ := h
    rcases l with ⟨_, l, _⟩ | ⟨_, _, l, _⟩
    · exact .base (.dK l)
    · exact .base (.dT l)
def rIs (K : PySem.W.Frag) (n : String) : V → Hp → VK → Prop := fun x H Q => rIsi K [x, .ty n] H Q
theorem od_isX {K : PySem.W.Frag} {o : Op} {n : String} {f : D → Bool} (ho : ∀ a, opF o [a] = some (.bool (f a))) (n2 : ∀ a b, opF o [a, b] = none) (n3 : ∀ a b c, opF o [a, b, c] = none) (k : ∀ d, kitB (tyN d) n = some (f d)) (nf : ∀ b, frD o (.bool b) = false) : OpD1 o (rIs K n) := by
  refine OpD1.mk n2 n3 fun fr roots H Z fp v a d Q z hv e qF q => ?_
  rw [ho] at e
  cases e
  exact ⟨v, .ty n, .type (tyN a), .type n, f a, rfl, .ty n, hv.ty, kit_ty (k a), res_rd z (.bl _) (qF (nf _))⟩
def tyNs : List String := ["NoneType", "bool", "int", "str", "list", "tuple", "dict"]
theorem tyN_mem (d : D) : tyN d ∈ tyNs := by cases d <;> simp [tyN, tyNs]
theorem isX_k {n : String} {g : String → Bool} {f : D → Bool} (h : ∀ t ∈ tyNs, kitB t n = some (g t)) (hf : ∀ d, f d = g (tyN d)) : ∀ d, kitB (tyN d) n = some (f d) := fun d => by
  rw [hf]
  exact h _ (tyN_mem d)
theorem od_isInt {K : PySem.W.Frag} : OpD1 .isInt (rIs K "int") := od_isX (f := isIntD) (fun _ => rfl) (fun _ _ => rfl) (fun _ _ _ => rfl) (isX_k (g := fun t => decide (t = "int") || decide (t = "bool")) (by decide +kernel) fun d => by cases d <;> simp [isIntD, tyN]) (fun _ => rfl)
theorem od_isBool {K : PySem.W.Frag} : OpD1 .isBool (rIs K "bool") := od_isX (f := isBoolD) (fun _ => rfl) (fun _ _ => rfl) (fun _ _ _ => rfl) (isX_k (g := fun t => decide (t = "bool")) (by decide +kernel) fun d => by cases d <;> simp [isBoolD, tyN]) (fun _ => rfl)
theorem od_isTuple {K : PySem.W.Frag} : OpD1 .isTuple (rIs K "tuple") := od_isX (f := isTupleD) (fun _ => rfl) (fun _ _ => rfl) (fun _ _ _ => rfl) (isX_k (g := fun t => decide (t = "tuple")) (by decide +kernel) fun d => by cases d <;> simp [isTupleD, tyN]) (fun _ => rfl)
theorem od_isList {K : PySem.W.Frag} : OpD1 .isList (rIs K "list") := od_isX (f := isListD) (fun _ => rfl) (fun _ _ => rfl) (fun _ _ _ => rfl) (isX_k (g := fun t => decide (t = "list")) (by decide +kernel) fun d => by cases d <;> simp [isListD, tyN]) (fun _ => rfl)
theorem od_isStr {K : PySem.W.Frag} : OpD1 .isStr (rIs K "str") := od_isX (f := isStrD) (fun _ => rfl) (fun _ _ => rfl) (fun _ _ _ => rfl) (isX_k (g := fun t => decide (t = "str")) (by decide +kernel) fun d => by cases d <;> simp [isStrD, tyN]) (fun _ => rfl)
/-! ### list(range(..)) -/
def rRg (a b : Int) : Hp → VK → Prop := fun H Q => RgOk a b ∧ ∀ q, H q = none → Q (.ref q) (upd H q (.lst (rgV a b)))
def rRg1 : V → Hp → VK → Prop := fun x H Q => ∃ n, x = .int n ∧ rRg 0 n H Q
def rRg2 : R2 := fun x y H Q => ∃ i j, x = .int i ∧ y = .int j ∧ rRg i j H Q
theorem rdA_rg {H : Hp} {Z : Addr → Prop} (a b : Int) : RdA H Z (rgV a b) (rangeD a b) := by
  unfold rgV rangeD
  generalize (List.range (b - a).toNat) = l
  induction l with
  | nil => exact .nil
  | cons x l ih => exact .cons (.int _) ih
theorem rgOk_of {a b : Int} (h1 : inR a = true) (h2 : inR b = true) (h3 : (b - a).toNat ≤ 2 ^ 24) : RgOk a b := by
  unfold inR at h1 h2
  simp only [Bool.and_eq_true, decide_eq_true_eq] at h1 h2
  exact ⟨h1.1, h1.2, h2.1, h2.2, h3⟩
theorem od_range1 : OpD1 .range1 rRg1 := by
  refine OpD1.mk (fun _ _ => rfl) (fun _ _ _ => rfl) fun fr roots H Z fp v a d Q z hv e qF q => ?_
  have e : fRange1 a = some d := e
  unfold fRange1 at e
  split at e
  · split at e
    · rename_i h
      cases e
      cases vw_int hv
      simp only [Bool.and_eq_true, decide_eq_true_eq] at h
      exact ⟨_, rfl, rgOk_of (by decide) h.1 (by simpa using h.2), res_newL z (rdA_rg _ _) q⟩
    · cases e
  · cases e
theorem od_range2 : OpD2 .range2 rRg2 := by
  refine OpD2.mk (fun _ => rfl) (fun _ _ _ => rfl) fun fr roots H Z fp v w a b d Q z hv hw e qF q => ?_
  have e : fRange2 a b = some d := e
  unfold fRange2 at e
  split at e
  · split at e
    · rename_i h
      cases e
      cases vw_int hv; cases vw_int hw
      simp only [Bool.and_eq_true, decide_eq_true_eq] at h
      exact ⟨_, _, rfl, rfl, rgOk_of h.1.1 h.1.2 h.2, res_newL z (rdA_rg _ _) q⟩
    · cases e
  · cases e
theorem pe_rg1 {a : Expr} {ta : TE} {p p2 pos pos2 : Pos} (hc : X.calm = true) (hg : Gl X "list") (hm : X.mg "list" = none) (hg2 : Gl X "range") (hm2 : X.mg "range" = none) (ha : PE X a ta)
    (na : starEach [a] X.env = (false, eval a X.env) :: starEach [] X.env) : PE X (.Call (.Name "list" p) [.Call (.Name "range" p2) [a] [] pos2] [] pos) (tUn rRg1 ta) := by
  refine PE.imp (pe_listRg hc hg hm (prg_1 hg2 hm2 ha na)) fun σ H Q h => ?_
  exact h
theorem pe_rg2 {a b : Expr} {ta tb : TE} {p p2 pos pos2 : Pos} (hc : X.calm = true) (hg : Gl X "list") (hm : X.mg "list" = none) (hg2 : Gl X "range") (hm2 : X.mg "range" = none) (ha : PE X a ta) (hb : PE X b tb)
    (na : starEach [a, b] X.env = (false, eval a X.env) :: starEach [b] X.env) (nb : starEach [b] X.env = (false, eval b X.env) :: starEach [] X.env) (hp : (backTo pos2 (starEach [b] X.env)).any (·.1) = false) :
    PE X (.Call (.Name "list" p) [.Call (.Name "range" p2) [a, b] [] pos2] [] pos) (tOp rRg2 ta tb) := by
  refine PE.imp (pe_listRg hc hg hm (prg_2 hg2 hm2 ha hb na nb hp)) fun σ H Q h => ?_
  exact h
end
end Dt
end
section
set_option Elab.async false
set_option linter.all false
set_option maxRecDepth 100000
set_option maxHeartbeats 4000000
/-! Further operations: sorted, index, count. -/
namespace Dt
open PySem PySem.Spec PyProof.Rows L2
abbrev VD := V × D
def leVD : VD → VD → Bool := W.dataLe false (fun b : VD => b.2)
def sortZ (xs : List V) (ds : List D) : List VD := (xs.zip ds).mergeSort leVD
def sortV (xs : List V) (ds : List D) : List V := (sortZ xs ds).map (·.1)
theorem zip_fst {xs : List V} : ∀ {ds : List D}, xs.length = ds.length → (xs.zip ds).map (·.1) = xs := by
  induction xs with
  | nil => intro ds _; rfl
  | cons x xs ih =>
    intro ds h
    cases ds with
    | nil => cases h
    | cons d ds => simp only [List.zip_cons_cons, List.map_cons]; rw [ih (by simpa using h)]
theorem zip_snd {xs : List V} : ∀ {ds : List D}, xs.length = ds.length → (xs.zip ds).map (·.2) = ds := by
  induction xs with
  | nil => intro ds h; cases ds with | nil => rfl | cons d ds => cases h
  | cons x xs ih =>
    intro ds h
    cases ds with
    | nil => cases h
    | cons d ds => simp only [List.zip_cons_cons, List.map_cons]; rw [ih (by simpa using h)]
theorem sortZ_snd {xs : List V} {ds : List D} (h : xs.length = ds.length) : (sortZ xs ds).map (·.2) = ds.mergeSort (W.dataLe false id) := by
  unfold sortZ
  rw [List.map_mergeSort (r := leVD) (f := fun x : VD => x.2) (s := W.dataLe false id) (fun a _ b _ => rfl), zip_snd h]
theorem sortV_len {xs : List V} {ds : List D} (h : xs.length = ds.length) : (sortV xs ds).length = xs.length := by
  unfold sortV sortZ
  rw [List.length_map, List.length_mergeSort, List.length_zip, ← h, Nat.min_self]
theorem zip_rd {H : Hp} {Z : Addr → Prop} : ∀ {xs : List V} {ds : List D}, RdA H Z xs ds → ∀ p ∈ xs.zip ds, Dt.Rd H Z p.1 p.2
  | _, _, .nil, p, h => nomatch h
  | _, _, .cons h t, p, m => by
    rw [List.zip_cons_cons] at m
    rcases List.mem_cons.mp m with rfl | m
    · exact h
    · exact zip_rd t p m
theorem rd_zip {H : Hp} {Z : Addr → Prop} : ∀ {l : List VD}, (∀ p ∈ l, Dt.Rd H Z p.1 p.2) → RdA H Z (l.map (·.1)) (l.map (·.2))
  | [], _ => .nil
  | p :: l, h => .cons (h p (List.mem_cons_self ..)) (rd_zip fun q m => h q (List.mem_cons_of_mem _ m))
theorem RdA.sorted {H : Hp} {Z : Addr → Prop} {xs : List V} {ds : List D} (r : RdA H Z xs ds) : RdA H Z (sortV xs ds) (ds.mergeSort (W.dataLe false id)) := by
  rw [← sortZ_snd r.length]
  exact rd_zip fun p m => zip_rd r p ((List.mergeSort_perm _ _).mem_iff.mp m)
theorem each_vals : ∀ {us : List Value} {l : List VD}, W.EachIs (fun u (b : VD) => RelV b.1 u) us l → Vals (l.map (·.1)) us
  | _, _, .nil => .nil
  | _, _, .cons h t => .cons h (each_vals t)
theorem vals_each : ∀ {us : List Value} {xs : List V} {ds : List D}, Vals xs us → xs.length = ds.length → W.EachIs (fun u (b : VD) => RelV b.1 u) us (xs.zip ds)
  | _, _, ds, .nil, _ => .nil
  | _, _, [], .cons _ _, h => nomatch h
  | _, _, d :: ds, .cons r t, h => .cons r (vals_each t (by simpa using h))
def rSortD (K : PySem.W.Frag) : List V → Hp → VK → Prop := fun vs H Q => ∃ (a : Addr) (xs : List V) (ds : List D), vs = [.ref a] ∧ SqL K H a xs ∧ DpAll K H xs ds ∧ xs.length = ds.length ∧ (∀ d ∈ ds, d.depth ≤ 64) ∧ W.AllAlike ds ∧ W.Sortable ds ∧
  ∀ p, H p = none → Q (.ref p) (upd H p (.lst (sortV xs ds)))
section
variable {X : Cx}
theorem cr_sortD (hu : X.A.units + 67 < cLine) : CallR X (.builtin "sorted") (rSortD X.K) := by
  intro pins s σ H vs us Q I r ⟨a, xs, ds, e1, hs, hd, hl, hdp, ha, hk, q⟩
  subst e1
  obtain ⟨its, rv, hlist, hz⟩ := I.list hs
  rw [Vals.ref1 r]
  obtain ⟨as, hr⟩ := Dp.readsAll I ds xs its hd rv
  have en : (xs.zip ds).map (fun b : VD => b.2) = ds := zip_snd hl
  have hlz : (xs.zip ds).length = xs.length := by rw [List.length_zip, ← hl, Nat.min_self]
  refine W.sorted_data (bs := xs.zip ds) (enc := fun b : VD => b.2) (R := fun u (b : VD) => RelV b.1 u) hlist.isList (vals_each rv hl) (W.readsAll_each _ (by rw [en]; exact hr)) (by rw [en]; exact ha) (by rw [en]; exact hk) (by rw [hlz]; exact hz) (fun b hb => ?_) fun out h1 h2 => ?_
  · have : b.2 ∈ ds := by rw [← en]; exact List.mem_map_of_mem hb
    have := hdp _ this
    omega
  · obtain ⟨ep, he'⟩ := PyProof.Rows.sortedAll_at s.heap its out.toArray
    have rv2 : Vals (sortV xs ds) out := each_vals h2
    have hlen : (sortV xs ds).length ≤ sizeLine := by rw [sortV_len hl]; exact hz
    exact ⟨.ref _, upd H (s.heap.objs.size + 1) (.lst (sortV xs ds)), I.laid (t' := s.toks) (fun _ _ => PyProof.Rows.sortedAll_old) (Nat.le_succ _) ⟨hlen, out, ep, rv2, he'⟩, rfl, q _ (I.hok.fresh (Nat.le_succ _))⟩
end
/-! sorted of a dict's keys: whole numbers -/
theorem sortI_uniq {ys ns : List Int} (p : ys.Perm ns) (s : ys.Pairwise (· ≤ ·)) : ys = ns.mergeSort leI := by
  refine (p.trans (List.mergeSort_perm ns leI).symm).eq_of_pairwise (le := fun a b => a ≤ b) (fun a b _ _ h1 h2 => Int.le_antisymm h1 h2) s ?_
  have h := List.pairwise_mergeSort (le := leI) (fun a b c h1 h2 => by simp only [leI, decide_eq_true_eq] at *; omega) (fun a b => by simp only [leI, Bool.or_eq_true, decide_eq_true_eq]; omega) ns
  exact h.imp fun h => of_decide_eq_true h
def rSortDI : List V → Hp → VK → Prop := fun xs H Q => ∃ (a : Addr) (kvs : List (Key × V)) (ks : List Int), xs = [.ref a] ∧ H a = some (.dK kvs) ∧ kvs.map (·.1) = ks.map Sum.inl ∧ ks.length < 64 ∧
    ∀ p, H p = none → Q (.ref p) (upd H p (.lst ((ks.mergeSort leI).map V.int)))
theorem cr_sortDI {X : Cx} (hc : X.calm = true) : CallR X (.builtin "sorted") rSortDI := by
  intro pins s σ H xs us Q I r ⟨a, kvs, ks, e1, hd, hk, h64, q⟩
  exact call_sortedDI hc pins s σ H xs us Q I r ⟨a, kvs, ks, e1, .inl hd, hk, h64, fun ys p g1 g2 hp => by rw [sortI_uniq g1 g2]; exact q p hp⟩
/-! index, count: a list or a tuple -/
section
variable {X : Cx} {pins : List (Addr × Obj)} {σ : L2.St} {H : Hp} {s : Shared}
theorem tup_at {a : Addr} {xs : List V} (I : L2.Inv X pins σ H s) (h : TupAt H a xs) : xs.length ≤ sizeLine ∧ ∃ (its : List Value) (o : Obj) (n : Nat), Vals xs its ∧ s.heap.get? a = some o ∧ o.cls = .type "tuple" ∧ o.dict = none ∧ o.data = .seq its.toArray n := by
  obtain ⟨o, hn, e⟩ := h
  obtain ⟨h1, hz, its, rv, o', h2, hc, n, hd⟩ := (show ObjOk X.prog X.w H s.heap a (.frz o (.tup xs)) from I.hok a _ e)
  rw [h1] at h2
  cases h2
  exact ⟨hz, its, o, n, rv, h1, hc, hn, hd⟩
end
/-- the receiver, as one of two types -/
def tBE (K : PySem.W.Frag) (r r' : V → List V → Hp → VK → Prop) (to : TE) (t : TA) : TE := fun σ H Q => to σ H fun x H1 => ((tyV K "list" x H1 ∧ t σ H1 fun xs H2 => r x xs H2 Q) ∨ ((∃ a xs, x = .ref a ∧ TupAt H1 a xs) ∧ t σ H1 fun xs H2 => r' x xs H2 Q))
section
variable {X : Cx} {o e : Expr} {es : List Expr} {to : TE} {t : TA} {name : Str} {apos cpos : Pos} {id id' : String} {r r' : V → List V → Hp → VK → Prop}
theorem pe_bmE (slot : Slot "list" name id) (hty : typeOf (.builtin id) = pure (.type "method_descriptor")) (hm : MtR X id r) (slot' : Slot "tuple" name id') (hty' : typeOf (.builtin id') = pure (.type "method_descriptor")) (hm' : MtR X id' r') (ho : PE X o to) (ha : PA X (e :: es) t)
    (hbase : attributeBase o name X.env (eval o X.env) = eval o X.env)
    (hfew : ((backTo cpos (starEach (e :: es) X.env)).all (fun x => !x.1) && (backToKw cpos (keywordEach [] X.env)).all (fun x => x.1.isSome)
      && decide ((e :: es).length + ([] : List Keyword).length + (if ([] : List Keyword).isEmpty then 0 else 1) < 30)) = true)
    (hline : (apos.endLine == cpos.line) = true) (hs : starEach (e :: es) X.env = (false, eval e X.env) :: starEach es X.env) (hplain : (backTo cpos (starEach es X.env)).any (·.1) = false) :
    PE X (.Call (.Attribute o name apos) (e :: es) [] cpos) (tBE X.K r r' to t) := by
  refine ⟨fun pins s σ H Q I h => ?_⟩
  refine wpAny_Call_method_late hbase hfew hline rfl (thn (ho.run pins s σ H _ I h) fun v s1 ⟨x, H1, I1, r1, q⟩ => ?_)
  rcases q with ⟨ty, q1⟩ | ⟨⟨a, xs, e1, e2⟩, q1⟩
  · obtain ⟨h1, h2⟩ := tyV_is I1 r1 ty
    refine ⟨"list", id, F.plainAttrs_list, slot, hty, h1, h2, ?_⟩
    have hA := ha.run cpos pins s1 σ H1 _ I1 q1
    rw [hs] at hA ⊢
    refine Calls.callWith_builtin (by show (false || (backTo cpos (starEach es X.env)).any (·.1)) = false; rw [hplain] <;> rfl) (Calls.evalArgs_plain ?_)
    exact thn hA fun us s2 ⟨vs, H2, I2, r2, q2⟩ => hm pins s2 σ H2 x vs v us Q I2 r1 r2 q2
  · subst e1
    have r0 := r1
    cases r1
    obtain ⟨_, its, o0, n0, rv, ho0, hc0, hn0, hd0⟩ := tup_at I1 e2
    refine ⟨"tuple", id', F.plainAttrs_tuple, slot', hty', ⟨o0, ho0, hc0⟩, fun b eb => ?_, ?_⟩
    · cases eb
      exact ⟨o0, ho0, hn0⟩
    have hA := ha.run cpos pins s1 σ H1 _ I1 q1
    rw [hs] at hA ⊢
    refine Calls.callWith_builtin (by show (false || (backTo cpos (starEach es X.env)).any (·.1)) = false; rw [hplain] <;> rfl) (Calls.evalArgs_plain ?_)
    exact thn hA fun us s2 ⟨vs, H2, I2, r2, q2⟩ => hm' pins s2 σ H2 _ vs _ us Q I2 r0 r2 q2
end
/-- what both ask of the items and the value -/
def ItsD (K : PySem.W.Frag) (H : Hp) (xs : List V) (ds : List D) (y : V) (d : D) : Prop := DpAll K H xs ds ∧ Dp K H y d ∧ PyData.canLayAll0 ds = true ∧ okD d = true
def rCntL (K : PySem.W.Frag) : V → List V → Hp → VK → Prop := fun x vs H Q => ∃ a y d ds xs, x = .ref a ∧ vs = [y] ∧ SqL K H a xs ∧ ItsD K H xs ds y d ∧ Q (.int (cntD ds d)) H
def rCntT (K : PySem.W.Frag) : V → List V → Hp → VK → Prop := fun x vs H Q => ∃ a y d ds xs, x = .ref a ∧ vs = [y] ∧ TupAt H a xs ∧ ItsD K H xs ds y d ∧ Q (.int (cntD ds d)) H
def rIxL (K : PySem.W.Frag) : V → List V → Hp → VK → Prop := fun x vs H Q => ∃ a y d ds xs j, x = .ref a ∧ vs = [y] ∧ SqL K H a xs ∧ ItsD K H xs ds y d ∧ ixFrom ds d 0 = some j ∧ Q (.int (j : Nat)) H
def rIxT1 (K : PySem.W.Frag) : V → List V → Hp → VK → Prop := fun x vs H Q => ∃ a y d ds xs j, x = .ref a ∧ vs = [y] ∧ TupAt H a xs ∧ ItsD K H xs ds y d ∧ ixFrom ds d 0 = some j ∧ Q (.int (j : Nat)) H
def rIxT2 (K : PySem.W.Frag) : V → List V → Hp → VK → Prop := fun x vs H Q => ∃ a y d ds xs j, ∃ i : Int, x = .ref a ∧ vs = [y, .int i] ∧ TupAt H a xs ∧ ItsD K H xs ds y d ∧ ixFrom ds d (SeqAt.searchFrom i ds.length) = some j ∧ Q (.int (j : Nat)) H
section
variable {X : Cx} {pins : List (Addr × Obj)} {σ : L2.St} {H : Hp} {s : Shared}
theorem its_eq (hu : X.A.units + 66 < cLine) (I : L2.Inv X pins σ H s) {xs : List V} {its : List Value} {ds : List D} {y : V} {u : Value} {d : D} (rv : Vals xs its) (ry : RelV y u) (h : ItsD X.K H xs ds y d) :
    (∀ z, z ∈ its.toArray → SeqAt.EqAt X.A.in1 s z u (PyData.eqv (SeqAt.readOf s.heap z) d)) ∧ its.map (SeqAt.readOf s.heap) = ds := by
  obtain ⟨h1, h2, h3, h4⟩ := h
  obtain ⟨as, ra⟩ := Dp.readsAll I ds xs its h1 rv
  obtain ⟨bs, rb⟩ := Dp.reads I d y u h2 ry
  have hroom : X.A.units + 1 + min (PyData.depthAll ds) d.depth < cLine := room_in_shaped h4 (by omega)
  exact ⟨SeqAt.items_eqAt (vs := its.toArray) (show ReadsAll s.heap its.toArray.toList ds as from ra) rb h3 (SeqAt.canLay_of_shaped h4) hroom, SeqAt.readsAll_map ds its as h3 ra⟩
theorem count_map {its : List Value} {ds : List D} {d : D} (h : its.map (SeqAt.readOf s.heap) = ds) : its.countP (fun z => PyData.eqv (SeqAt.readOf s.heap z) d) = ds.countP fun y => PyData.eqv y d := by
  rw [← h, List.countP_map]
  rfl
theorem mt_cntL (hu : X.A.units + 66 < cLine) : MtR X "list.count" (rCntL X.K) := by
  intro pins s σ H x vs v us Q I rx rvs ⟨a, y, d, ds, xs, e1, e2, hs, hi, q⟩
  subst e1 e2
  cases rx
  obtain ⟨u, rfl, ry⟩ := vals1 rvs
  obtain ⟨its, rv, ⟨⟨cls, dd, data, sls⟩, n, ho, hc, hdn, hdt⟩, hlen⟩ := I.list hs
  simp only at hc hdt
  subst hc hdt
  obtain ⟨h1, h2⟩ := its_eq hu I rv ry hi
  refine call_meets F.slot_list_count ⟨_, ho, rfl⟩ F.entry_list_count (F.args_list_count_2 _ _) (SeqAt.list_countAt a its.toArray n dd sls u (fun z => PyData.eqv (SeqAt.readOf s.heap z) d)) ⟨ho, h1, ?_⟩
  rw [show its.toArray.toList = its from rfl, count_map h2]
  exact ⟨.int _, H, I.tok _, ⟨_, rfl⟩, q⟩
theorem mt_cntT (hu : X.A.units + 66 < cLine) : MtR X "tuple.count" (rCntT X.K) := by
  intro pins s σ H x vs v us Q I rx rvs ⟨a, y, d, ds, xs, e1, e2, hs, hi, q⟩
  subst e1 e2
  cases rx
  obtain ⟨u, rfl, ry⟩ := vals1 rvs
  obtain ⟨_, its, ⟨cls, dd, data, sls⟩, n, rv, ho, hc, hdn, hdt⟩ := tup_at I hs
  simp only at hc hdt
  subst hc hdt
  obtain ⟨h1, h2⟩ := its_eq hu I rv ry hi
  refine call_meets F.slot_tuple_count ⟨_, ho, rfl⟩ F.entry_tuple_count (F.args_tuple_count_2 _ _) (SeqAt.tuple_countAt a its.toArray n dd sls u (fun z => PyData.eqv (SeqAt.readOf s.heap z) d)) ⟨ho, h1, ?_⟩
  rw [show its.toArray.toList = its from rfl, count_map h2]
  exact ⟨.int _, H, I.tok _, ⟨_, rfl⟩, q⟩
/-- the first place from k on -/
theorem ix_at {ds : List D} {d : D} {k j : Nat} (h : ixFrom ds d k = some j) : k ≤ j ∧ ∃ z, ds[j]? = some z ∧ PyData.eqv z d = true ∧ ∀ (m : Nat) (z' : D), k ≤ m → m < j → ds[m]? = some z' → PyData.eqv z' d = false := by
  unfold ixFrom at h
  obtain ⟨i, g, rfl⟩ := Option.map_eq_some_iff.mp h
  obtain ⟨h1, h2, h3⟩ := List.findIdx?_eq_some_iff_getElem.mp g
  refine ⟨by omega, (ds.drop k)[i], by rw [← List.getElem?_drop]; exact List.getElem?_eq_getElem h1, h2, fun m z' hm hj hz => ?_⟩
  have h4 := h3 (m - k) (by omega)
  rw [List.getElem_drop] at h4
  have e : k + (m - k) = m := by omega
  have hm2 : ds[k + (m - k)]? = some z' := by rw [e]; exact hz
  have hl : k + (m - k) < ds.length := (List.getElem?_eq_some_iff.mp hm2).1
  have : ds[k + (m - k)] = z' := (List.getElem?_eq_some_iff.mp hm2).2
  rw [this] at h4
  simpa using h4
theorem read_at {its : List Value} {ds : List D} (h : its.map (SeqAt.readOf s.heap) = ds) (m : Nat) (hm : m < its.toArray.size) : ds[m]? = some (SeqAt.readOf s.heap its.toArray[m]) := by
  have hm' : m < its.length := by simpa using hm
  rw [← h, List.getElem?_map, List.getElem?_eq_getElem hm']
  simp
theorem mt_ixL (hu : X.A.units + 66 < cLine) : MtR X "list.index" (Dt.rIxL X.K) := by
  intro pins s σ H x vs v us Q I rx rvs ⟨a, y, d, ds, xs, j, e1, e2, hs, hi, hj, q⟩
  subst e1 e2
  cases rx
  obtain ⟨u, rfl, ry⟩ := vals1 rvs
  obtain ⟨its, rv, ⟨⟨cls, dd, data, sls⟩, n, ho, hc, hdn, hdt⟩, hlen⟩ := I.list hs
  simp only at hc hdt
  subst hc hdt
  obtain ⟨h1, h2⟩ := its_eq hu I rv ry hi
  obtain ⟨_, z, g1, g2, g3⟩ := ix_at hj
  have hl : its.length = ds.length := by rw [← h2, List.length_map]
  have hjd : j < ds.length := (List.getElem?_eq_some_iff.mp g1).1
  have hjs : j < its.toArray.size := by simpa [hl] using hjd
  have hsl := sizeLine_eq
  have hvl := rv.length
  refine call_meets PySem.F.slot_list_index ⟨_, ho, rfl⟩ PySem.F.entry_list_index (PySem.F.args_list_index_2 _ _)
    (SeqAt.list_indexAt a its.toArray n dd sls u (fun z => PyData.eqv (SeqAt.readOf s.heap z) d) j hjs (by omega) ?_ ?_) ⟨ho, h1, ⟨.int (j : Nat), H, I.tok _, ⟨_, rfl⟩, q⟩⟩
  · have := read_at h2 j hjs
    rw [g1] at this
    cases this
    exact g2
  · intro m hm hmj
    exact g3 m _ (Nat.zero_le _) hmj (read_at h2 m hm)
theorem mt_ixT1 (hu : X.A.units + 66 < cLine) : MtR X "tuple.index" (Dt.rIxT1 X.K) := by
  intro pins s σ H x vs v us Q I rx rvs ⟨a, y, d, ds, xs, j, e1, e2, hs, hi, hj, q⟩
  subst e1 e2
  cases rx
  obtain ⟨u, rfl, ry⟩ := vals1 rvs
  obtain ⟨_, its, ⟨cls, dd, data, sls⟩, n, rv, ho, hc, hdn, hdt⟩ := tup_at I hs
  simp only at hc hdt
  subst hc hdt
  obtain ⟨h1, h2⟩ := its_eq hu I rv ry hi
  obtain ⟨_, z, g1, g2, g3⟩ := ix_at hj
  have hl : its.length = ds.length := by rw [← h2, List.length_map]
  have hjd : j < ds.length := (List.getElem?_eq_some_iff.mp g1).1
  have hjs : j < its.toArray.size := by simpa [hl] using hjd
  let e : Nat → Bool := fun m => if h : m < its.toArray.size then PyData.eqv (SeqAt.readOf s.heap its.toArray[m]) d else false
  refine call_meets PySem.F.slot_tuple_index ⟨_, ho, rfl⟩ PySem.F.entry_tuple_index (PySem.F.args_tuple_index_2 _ _)
    (SeqAt.tuple_index2_found a its.toArray n dd sls u e j hjs (Nat.zero_le _) hjs ?_ ?_) ⟨ho, ?_, ⟨.int (j : Nat), H, I.tok _, ⟨_, rfl⟩, q⟩⟩
  · have := read_at h2 j hjs
    rw [g1] at this
    cases this
    simp only [e, dif_pos hjs]
    exact g2
  · intro m hm _ hmj
    simp only [e, dif_pos hm]
    exact g3 m _ (Nat.zero_le _) hmj (read_at h2 m hm)
  · intro m hm
    simp only [e, dif_pos hm]
    exact h1 _ (Array.getElem_mem hm)
theorem mt_ixT2 (hu : X.A.units + 66 < cLine) : MtR X "tuple.index" (Dt.rIxT2 X.K) := by
  intro pins s σ H x vs v us Q I rx rvs ⟨a, y, d, ds, xs, j, i, e1, e2, hs, hi, hj, q⟩
  subst e1 e2
  cases rx
  obtain ⟨u, ui, rfl, ry, ri⟩ := vals2 rvs
  obtain ⟨tk, rfl⟩ := ri
  obtain ⟨_, its, ⟨cls, dd, data, sls⟩, n, rv, ho, hc, hdn, hdt⟩ := tup_at I hs
  simp only at hc hdt
  subst hc hdt
  obtain ⟨h1, h2⟩ := its_eq hu I rv ry hi
  obtain ⟨g0, z, g1, g2, g3⟩ := ix_at hj
  have hl : its.length = ds.length := by rw [← h2, List.length_map]
  have hjd : j < ds.length := (List.getElem?_eq_some_iff.mp g1).1
  have hjs : j < its.toArray.size := by simpa [hl] using hjd
  let e : Nat → Bool := fun m => if h : m < its.toArray.size then PyData.eqv (SeqAt.readOf s.heap its.toArray[m]) d else false
  have hsz : its.toArray.size = ds.length := by simpa using hl
  refine call_meets PySem.F.slot_tuple_index ⟨_, ho, rfl⟩ PySem.F.entry_tuple_index (PySem.F.args_tuple_index_3 _ _ _)
    (SeqAt.tuple_index3_found a its.toArray n dd sls u e i tk j hjs (by rw [hsz]; exact g0) hjs ?_ ?_) ⟨ho, ?_, ⟨.int (j : Nat), H, I.tok _, ⟨_, rfl⟩, q⟩⟩
  · have := read_at h2 j hjs
    rw [g1] at this
    cases this
    simp only [e, dif_pos hjs]
    exact g2
  · intro m hm hk hmj
    simp only [e, dif_pos hm]
    exact g3 m _ (by rw [← hsz]; exact hk) hmj (read_at h2 m hm)
  · intro m hm
    simp only [e, dif_pos hm]
    exact h1 _ (Array.getElem_mem hm)
end

/-! by their data -/
theorem intsOf_some : ∀ {ds : List D} {ns : List Int}, intsOf ds = some ns → ds = ns.map .int
  | [], _, h => by cases h; rfl
  | d :: ds, ns, h => by
    cases d with
    | int i =>
      obtain ⟨r, h1, rfl⟩ := Option.map_eq_some_iff.mp (show (intsOf ds).map (i :: ·) = some ns from h)
      rw [intsOf_some h1]
      rfl
    | _ => cases h
theorem keys_dK {H : Hp} {Z : Addr → Prop} : ∀ {kvs : List (Key × V)} {es : List (D × D)} {ns : List Int}, RdE H Z (kvs.map eK) es → es.map (·.1) = ns.map .int → kvs.map (·.1) = ns.map Sum.inl
  | [], _, ns, r, h => by
    cases r
    cases ns with
    | nil => rfl
    | cons _ _ => cases h
  | (k, v) :: kvs, _, ns, r, h => by
    cases r with
    | cons w t =>
      cases ns with
      | nil => cases h
      | cons n ns =>
        simp only [List.map_cons, List.cons.injEq] at h
        obtain ⟨h1, h2⟩ := h
        have : k = .inl n := by cases k with
          | inl i => cases h1; rfl
          | inr x => cases h1
        simp only [List.map_cons]
        rw [this, keys_dK t h2]
theorem depth_mem : ∀ {ds : List D} {d : D}, d ∈ ds → d.depth ≤ PyData.depthAll ds
  | d0 :: ds, d, h => by
    have : PyData.depthAll (d0 :: ds) = max d0.depth (PyData.depthAll ds) := by simp [PyData.depthAll]
    rw [this]
    rcases List.mem_cons.mp h with rfl | h
    · exact Nat.le_max_left _ _
    · exact Nat.le_trans (depth_mem h) (Nat.le_max_right _ _)
theorem od_sorted {K : PySem.W.Frag} : OpD1 .sorted (c1 fun xs H Q => rSortD K xs H Q ∨ rSortDI xs H Q) := by
  refine OpD1.mk (fun _ _ => rfl) (fun _ _ _ => rfl) fun fr roots H Z fp v a d Q z hv e qF q => ?_
  have e : fSorted a = some d := e
  unfold fSorted at e
  split at e
  · rename_i es
    obtain ⟨ns, e1, e2⟩ := Option.bind_eq_some_iff.mp e
    split at e2
    case isFalse => cases e2
    rename_i h64
    cases e2
    have ek := intsOf_some e1
    obtain ⟨b, rfl, hd⟩ := hv
    have rn : ∀ l : List Int, RdA H Z (l.map V.int) (l.map PyData.int) := fun l => by
      induction l with
      | nil => exact .nil
      | cons x l ih => exact .cons (.int x) ih
    rcases hd with ⟨kvs, h1, r⟩ | ⟨kvs, n, h1, r⟩
    · exact .inr ⟨b, kvs, ns, rfl, h1, keys_dK r ek, h64, res_newL z (rn _) q⟩
    · exfalso
      cases kvs with
      | nil => exact n rfl
      | cons p kvs =>
        cases r with
        | cons w t =>
          cases ns with
          | nil => cases ek
          | cons _ _ => cases ek
  · rename_i xs _
    split at e
    case isFalse => cases e
    rename_i hh
    simp only [Bool.and_eq_true, decide_eq_true_eq] at hh
    obtain ⟨⟨⟨k1, k2⟩, k3⟩, k4⟩ := hh
    cases e
    obtain ⟨l, us, rfl, hl, r1⟩ := hv
    have al : W.AllAlike xs := fun d hd d' hd' => by
      unfold alikeAll1 at k2
      exact List.all_eq_true.mp (List.all_eq_true.mp k2 d hd) d' hd'
    have so : W.Sortable xs := by
      unfold sortable1 at k3
      rcases Bool.or_eq_true_iff.mp k3 with k3 | k3
      · refine .inl fun d hd => ?_
        have := List.all_eq_true.mp k3 d hd
        cases d with
        | tuple l => cases l with
          | nil => cases this
          | cons x r => exact ⟨x, r, rfl⟩
        | _ => cases this
      · refine .inr fun d hd => ?_
        have := List.all_eq_true.mp k3 d hd
        cases d with
        | none => cases this
        | tuple l => cases this
        | _ => exact ⟨fun z => (by cases z), fun _ z => (by cases z)⟩
    have dp : ∀ d ∈ xs, d.depth ≤ 64 := fun d hd => by
      have h1 := SeqAt.depth_of_shaped k1
      have h2 := depth_mem hd
      simp only [PyData.depth] at h1
      omega
    refine .inl ⟨l, us, xs, rfl, hl.sq, r1.dp (layAll k1), r1.length, dp, al, so, ?_⟩
    exact res_newL z r1.sorted q
  · cases e
/-- methods of a list or a tuple -/
def MethD (o : Op) (r r' : V → List V → Hp → VK → Prop) : Prop := ∀ (roots : List Root) (H : Hp) (Z : Addr → Prop) (fp : List Addr) (v : V) (a : D) (vs : List V) (ds : List D) (d : D) (Q : VK),
  RepZ roots H Z fp → Vw H Z v a → VwA H Z vs ds → opF o (a :: ds) = some d → Wish roots Q d .F → (∀ xs, a = .list xs → r v vs H Q) ∧ (∀ xs, a = .tuple xs → r' v vs H Q)
section
variable {K : PySem.W.Frag} {H : Hp} {Z : Addr → Prop}
theorem its_of {xs : List V} {ds : List D} {y : V} {d : D} (r : RdA H Z xs ds) (h : Vw H Z y d) (h1 : PyData.canLayAll0 ds = true) (h2 : okD d = true) : ItsD K H xs ds y d := ⟨r.dp h1, h.dp h2, h1, h2⟩
theorem layT {ds : List D} (h : okD (.tuple ds) = true) : PyData.canLayAll0 ds = true := by
  have := SeqAt.canLay_of_shaped h
  simpa [PyData.canLay0] using this
theorem md_count : MethD .count (rCntL K) (rCntT K) := by
  intro roots H Z fp v a vs ds d Q z hv hvs e q
  match ds, hvs, e with
  | [b], hvs, e =>
    obtain ⟨w, rfl, hw⟩ := hvs.one
    have e : fCount a b = some d := e
    unfold fCount at e
    split at e
    · split at e
      case isFalse => cases e
      rename_i xs hh
      obtain ⟨h1, h2⟩ := Bool.and_eq_true_iff.mp hh
      cases e
      obtain ⟨l, us, rfl, hl, r⟩ := hv
      exact ⟨fun _ _ => ⟨l, w, b, _, us, rfl, rfl, hl.sq, its_of r hw (layAll h1) h2, res_rd z (.int _) q⟩, fun _ k => nomatch k⟩
    · split at e
      case isFalse => cases e
      rename_i xs hh
      obtain ⟨h1, h2⟩ := Bool.and_eq_true_iff.mp hh
      cases e
      obtain ⟨l, us, rfl, hl, r⟩ := hv
      exact ⟨fun _ k => (nomatch k), fun _ _ => ⟨l, w, b, _, us, rfl, rfl, hl, its_of r hw (layT h1) h2, res_rd z (.int _) q⟩⟩
    · cases e
  | [], _, e => cases e
  | [b, c], _, e => cases e
  | b :: c :: f :: r, _, e => cases e
theorem natD_some {o : Option Nat} {d : D} (h : natD o = some d) : ∃ j : Nat, o = some j ∧ d = .int (j : Nat) := by
  obtain ⟨j, h1, h2⟩ := Option.map_eq_some_iff.mp h
  exact ⟨j, h1, h2.symm⟩
theorem md_index : MethD .index (Dt.rIxL K) (Dt.rIxT1 K) := by
  intro roots H Z fp v a vs ds d Q z hv hvs e q
  match ds, hvs, e with
  | [b], hvs, e =>
    obtain ⟨w, rfl, hw⟩ := hvs.one
    have e : fIndex a b = some d := e
    unfold fIndex at e
    split at e
    · split at e
      case isFalse => cases e
      rename_i xs hh
      obtain ⟨h1, h2⟩ := Bool.and_eq_true_iff.mp hh
      obtain ⟨j, g1, rfl⟩ := natD_some e
      obtain ⟨l, us, rfl, hl, r⟩ := hv
      exact ⟨fun _ _ => ⟨l, w, b, _, us, j, rfl, rfl, hl.sq, its_of r hw (layAll h1) h2, g1, res_rd z (.int _) q⟩, fun _ k => nomatch k⟩
    · split at e
      case isFalse => cases e
      rename_i xs hh
      obtain ⟨h1, h2⟩ := Bool.and_eq_true_iff.mp hh
      obtain ⟨j, g1, rfl⟩ := natD_some e
      obtain ⟨l, us, rfl, hl, r⟩ := hv
      exact ⟨fun _ k => (nomatch k), fun _ _ => ⟨l, w, b, _, us, j, rfl, rfl, hl, its_of r hw (layT h1) h2, g1, res_rd z (.int _) q⟩⟩
    · cases e
  | [], _, e => cases e
  | [b, c], _, e => cases e
  | b :: c :: f :: r, _, e => cases e
def rNo : V → List V → Hp → VK → Prop := fun _ _ _ _ => False
theorem mt_no {X : Cx} {id : String} : MtR X id rNo := fun _ _ _ _ _ _ _ _ _ _ _ _ h => h.elim
theorem md_index3 : MethD .index3 rNo (Dt.rIxT2 K) := by
  intro roots H Z fp v a vs ds d Q z hv hvs e q
  match ds, hvs, e with
  | [b, c], hvs, e =>
    obtain ⟨w, w2, rfl, hw, hw2⟩ := hvs.two
    have e : fIndex3 a b c = some d := e
    unfold fIndex3 at e
    split at e
    · split at e
      case isFalse => cases e
      rename_i hh
      obtain ⟨h1, h2⟩ := Bool.and_eq_true_iff.mp hh
      obtain ⟨j, g1, rfl⟩ := natD_some e
      obtain ⟨l, us, rfl, hl, r⟩ := hv
      cases vw_int hw2
      exact ⟨fun _ k => (nomatch k), fun _ _ => ⟨l, w, b, _, us, j, _, rfl, rfl, hl, its_of r hw (layT h1) h2, g1, res_rd z (.int _) q⟩⟩
    · cases e
  | [], _, e => cases e
  | [b], _, e => cases e
  | b :: c :: f :: r, _, e => cases e
end
end Dt
end
section
set_option Elab.async false
set_option linter.all false
set_option maxRecDepth 100000
set_option maxHeartbeats 4000000
/-! The checker: own syntax against the row's own. -/
namespace Dt
open PySem PySem.Spec PyProof.Rows L2
/-- a def as others see it -/
structure FnC where
  name : Str
  np : Nat
  ln : List Nat
  lm : List (Option Md)
  rm : Md
structure Ck where
  N : List Str
  sc : Scope
  own : Scope
  fns : List FnC
  bn : List Str
def glo (C : Ck) (x : Str) : Bool := match C.sc.names.lookup x with
  | some .globalImplicit => true
  | _ => false
def vis (C : Ck) (x : Str) : Bool := match C.sc.names.lookup x with
  | some .local => true
  | some .cell => true
  | some .free => true
  | _ => false
def sto (C : Ck) (x : Str) : Bool := match C.sc.names.lookup x with
  | some .local => true
  | some .cell => (match C.own.names.lookup x with
    | some .cell => true
    | _ => false)
  | _ => false
def plainN (x : Str) : Bool := !(x == ("__debug__" : Str)) && !(x == ("__classdict__" : Str)) && !decide (x = ("__name__" : Str))
def okN (C : Ck) (i : Nat) (x : Str) : Bool := decide (C.N[i]? = some x) && vis C x && plainN x
def okT (C : Ck) (i : Nat) (x : Str) : Bool := decide (C.N[i]? = some x) && sto C x
def nostar : Expr → Bool
  | .Starred _ _ => false
  | _ => true
def bltN (C : Ck) (n x : Str) : Bool := decide (x = n) && glo C x && decide (x ∈ C.bn) && plainN x
/-- n(a, ..) -/
def callB (C : Ck) (n : Str) (e : Expr) : Option (List Expr) := match e with
  | .Call (.Name x _) (a :: es) [] _ => if bltN C n x then some (a :: es) else none
  | _ => none
def one1 {α : Type} : Option (List α) → Option (List α)
  | some [a] => some [a]
  | _ => none
def two2 {α : Type} : Option (List α) → Option (List α)
  | some [a, b] => some [a, b]
  | _ => none
def isiOf (C : Ck) (n : Str) (e : Expr) : Option (List Expr) := match callB C "isinstance" e with
  | some [a, .Name y _] => if bltN C n y then some [a] else none
  | _ => none
def binOf (op : Operator) (e : Expr) : Option (List Expr) := match e with
  | .BinOp a o b _ => if o = op then some [a, b] else none
  | _ => none
def cmpOf (op : CmpOp) (e : Expr) : Option (List Expr) := match e with
  | .Compare a [o] [b] _ => if o = op && !(behindInMarks o b) then some [a, b] else none
  | _ => none
def nonOf (op : CmpOp) (e : Expr) : Option (List Expr) := match e with
  | .Compare a [o] [.Constant .none _ _] _ => if o = op then some [a] else none
  | _ => none
def rgOf (C : Ck) (e : Expr) : Option (List Expr) := match callB C "list" e with
  | some [r] => callB C "range" r
  | _ => none
def noSl : Expr → Bool
  | .Slice _ _ _ _ => false
  | _ => true
def opArgs (C : Ck) (o : Op) (e : Expr) : Option (List Expr) := match o with
  | .add => binOf .Add e
  | .sub => binOf .Sub e
  | .mul => binOf .Mult e
  | .fdiv => binOf .FloorDiv e
  | .mod => binOf .Mod e
  | .pow => binOf .Pow e
  | .neg => (match e with
    | .UnaryOp .USub a _ => some [a]
    | _ => none)
  | .eq => cmpOf .Eq e
  | .ne => cmpOf .NotEq e
  | .lt => cmpOf .Lt e
  | .le => cmpOf .LtE e
  | .gt => cmpOf .Gt e
  | .ge => cmpOf .GtE e
  | .isIn => cmpOf .In e
  | .notIn => cmpOf .NotIn e
  | .isN => nonOf .Is e
  | .notN => nonOf .IsNot e
  | .isB => cmpOf .Is e
  | .notB => cmpOf .IsNot e
  | .idx => (match e with
    | .Subscript a b _ => if noSl b then some [a, b] else none
    | _ => none)
  | .slice => (match e with
    | .Subscript a (.Slice (some lo) (some hi) none _) _ => some [a, lo, hi]
    | _ => none)
  | .sliceL => (match e with
    | .Subscript a (.Slice (some lo) none none _) _ => some [a, lo]
    | _ => none)
  | .sliceH => (match e with
    | .Subscript a (.Slice none (some hi) none _) _ => some [a, hi]
    | _ => none)
  | .rev => (match e with
    | .Subscript a (.Slice none none (some (.UnaryOp .USub (.Constant (.int 1) _ _) _)) _) _ => some [a]
    | _ => none)
  | .len => one1 (callB C "len" e)
  | .int => one1 (callB C "int" e)
  | .abs => one1 (callB C "abs" e)
  | .min1 => one1 (callB C "min" e)
  | .max1 => one1 (callB C "max" e)
  | .min2 => two2 (callB C "min" e)
  | .max2 => two2 (callB C "max" e)
  | .list => one1 (callB C "list" e)
  | .tuple => one1 (callB C "tuple" e)
  | .repr => one1 (callB C "repr" e)
  | .sorted => one1 (callB C "sorted" e)
  | .all => one1 (callB C "all" e)
  | .any => one1 (callB C "any" e)
  | .isInt => isiOf C "int" e
  | .isBool => isiOf C "bool" e
  | .isTuple => isiOf C "tuple" e
  | .isList => isiOf C "list" e
  | .isStr => isiOf C "str" e
  | .range1 => one1 (rgOf C e)
  | .range2 => two2 (rgOf C e)
  | _ => none

/-! ### what a body's context gives -/
/-- a def that is called where no guard runs -/
structure FnG (P : Program) (w : World) (K : PySem.W.Frag) (mg : Str → Option Value) (base : Heap) (k : Nat) (f : Addr) (fd : FuncData) (ps : List Str) (sp : List V → Hp → VK → Prop) : Prop where
  len : ∀ vs H Q, sp vs H Q → vs.length = ps.length
  run : ∀ (A : Around) (outer : List Env) (s : Shared) (H : Hp) (args : Args) (us : List Value) (vs : List V) (Q : VK), Room k A → A.guards = some [] → Env0 P w K mg base A outer s H → BindsTo s fd args (ps.zip us) → Vals vs us → sp vs H Q →
    codeAny (model P w) A (.call (.ref f) args) (CR CX0 outer P w H s Q fun _ _ _ => False) s
/-- the lent roots -/
def argR : List (Option Md) → List V → List D → List Root
  | lm :: l, v :: vs, d :: ds => (v, d, lm.getD .F) :: argR l vs ds
  | _, _, _ => []
def lentR : List (Option Md) → List V → List D → List Root
  | some m :: l, v :: vs, ds => (match ds with
    | d :: ds => (v, d, m) :: lentR l vs ds
    | [] => [])
  | none :: l, _ :: vs, ds => lentR l vs ds
  | _, _, _ => []
/-- a def's promise -/
def spF (F : Fns) (f : Nat) (d : FnC) : List V → Hp → VK → Prop := fun vs H Q => vs.length = d.np ∧ ∃ ds roots, ds.length = d.np ∧ Rep (argR d.lm vs ds ++ roots) H ∧ match F f ds with
  | .ret r ls => ∀ v H', Rep ((v, r, d.rm) :: (lentR d.lm vs ls ++ roots)) H' → Q v H'
  | _ => False
structure XOk (C : Ck) (U : Ev) (X : Cx) : Prop where
  N : X.N = C.N
  nd : X.N.Nodup
  sc : X.env.scope = C.sc
  calm : X.calm = true
  gd : X.A.guards = some []
  un : X.A.units + 200 < cLine
  bl : ∀ x ∈ C.bn, X.mg x = none
  cel : ∀ x, C.own.names.lookup x = some .cell → X.fn x = true
  xe : X.xe = fun _ _ => False
  fns : ∀ f d, C.fns[f]? = some d → ∃ a k fd ps, X.mg d.name = some (.ref a) ∧ PySem.W.keepIn X.K (.ref a) = true ∧ Binds X.K fd ps [] ∧ ps.length = d.np ∧ FnG X.prog X.w X.K X.mg X.base k a fd ps (spF U.F f d) ∧ Room k X.A
section
variable {C : Ck} {U : Ev} {X : Cx}
theorem XOk.glo (O : XOk C U X) {x : Str} (h : glo C x = true) : Gl X x := by
  unfold Dt.glo at h
  show X.env.scope.names.lookup x = some .globalImplicit
  rw [O.sc]
  split at h
  · assumption
  · cases h
theorem XOk.vis (O : XOk C U X) {x : Str} (h : vis C x = true) : Vis X.env.scope x := by
  unfold Dt.vis at h
  unfold Vis
  rw [O.sc]
  split at h
  · exact .inl (by assumption)
  · exact .inr (.inl (by assumption))
  · exact .inr (.inr (by assumption))
  · cases h
theorem XOk.sto (O : XOk C U X) {x : Str} (h : sto C x = true) : L2.Loc X.env.scope x ∧ (X.fn x = true ∨ X.env.scope.names.lookup x = some .local) := by
  unfold Dt.sto at h
  unfold L2.Loc
  rw [O.sc]
  split at h
  · exact ⟨.inl (by assumption), .inr (by assumption)⟩
  · split at h
    · exact ⟨.inr (by assumption), .inl (O.cel x (by assumption))⟩
    · cases h
  · cases h
theorem okN_ {i : Nat} {x : Str} (O : XOk C U X) (h : okN C i x = true) : X.N[i]? = some x ∧ Vis X.env.scope x ∧ (x == ("__debug__" : Str)) = false ∧ (x == ("__classdict__" : Str)) = false := by
  unfold okN plainN at h
  simp only [Bool.and_eq_true, Bool.not_eq_true', decide_eq_true_eq] at h
  exact ⟨by rw [O.N]; exact h.1.1, O.vis h.1.2, h.2.1.1, h.2.1.2⟩
theorem bltN_ {n x : Str} (O : XOk C U X) (h : bltN C n x = true) : x = n ∧ Gl X x ∧ X.mg x = none ∧ x ≠ ("__name__" : Str) ∧ (x == ("__debug__" : Str)) = false := by
  unfold bltN plainN at h
  simp only [Bool.and_eq_true, Bool.not_eq_true', decide_eq_true_eq, decide_eq_false_iff_not] at h
  exact ⟨h.1.1.1, O.glo h.1.1.2, O.bl x h.1.2, h.2.2, h.2.1.1⟩
theorem star_no {e : Expr} {es : List Expr} {env : Env} (h : nostar e = true) : starEach (e :: es) env = (false, eval e env) :: starEach es env := by
  cases e <;> first | rfl | cases h
/-! ### lists of readings -/
def chain : List TE → TA
  | [] => fun _ H Q => Q [] H
  | te :: tes => fun σ H Q => te σ H fun x H1 => chain tes σ H1 fun xs H2 => Q (x :: xs) H2
def Mo (te : TE) : Prop := ∀ (σ : L2.St) (H : Hp) (Q Q' : VK), (∀ v H, Q v H → Q' v H) → te σ H Q → te σ H Q'
theorem mo_tC {v : V} : Mo (tC v) := fun _ _ _ _ h w => h _ _ w
theorem mo_tD {md : List Md} {rm : Md} {W : WX} {m : Sl → Out D} : Mo (tD md rm W m) := fun σ H Q Q' h ⟨en, ts, R, P⟩ => ⟨en, ts, R, P.mono fun d en' _ q v H' r => h _ _ (q v H' r)⟩
theorem mo_tVar {i : Nat} : Mo (tVar i) := fun _ _ _ _ h ⟨v, e, q⟩ => ⟨v, e, h _ _ q⟩
inductive PEs (X : Cx) : List Expr → List TE → Prop
  | nil : PEs X [] []
  | cons {e : Expr} {es : List Expr} {te : TE} {tes : List TE} : nostar e = true → Mo te → PE X e te → PEs X es tes → PEs X (e :: es) (te :: tes)
theorem PEs.pa {es : List Expr} {tes : List TE} (h : PEs X es tes) : PA X es (chain tes) := by
  induction h with
  | nil => exact pa_nil
  | cons n _ h t ih => exact pa_cons h ih (star_no n)
theorem PEs.plain {es : List Expr} {tes : List TE} {pos : Pos} (h : PEs X es tes) : (backTo pos (starEach es X.env)).any (·.1) = false := by
  induction h with
  | nil => rfl
  | cons n _ h t ih =>
    rw [star_no n]
    show (false || (backTo pos (starEach _ X.env)).any (·.1)) = false
    rw [ih]
    rfl
theorem PEs.one {a : Expr} {tes : List TE} (h : PEs X [a] tes) : ∃ t, tes = [t] ∧ PE X a t ∧ nostar a = true := by
  cases h with
  | cons n _ h t => cases t; exact ⟨_, rfl, h, n⟩
theorem PEs.two {a b : Expr} {tes : List TE} (h : PEs X [a, b] tes) : ∃ t u, tes = [t, u] ∧ PE X a t ∧ PE X b u ∧ nostar a = true ∧ nostar b = true := by
  cases h with
  | cons n _ h t => obtain ⟨u, rfl, h2, n2⟩ := t.one; exact ⟨_, _, rfl, h, h2, n, n2⟩
theorem PEs.three {a b c : Expr} {tes : List TE} (h : PEs X [a, b, c] tes) : ∃ t u v, tes = [t, u, v] ∧ PE X a t ∧ PE X b u ∧ PE X c v := by
  cases h with
  | cons n _ h t => obtain ⟨u, v, rfl, h2, h3, _⟩ := t.two; exact ⟨_, _, _, rfl, h, h2, h3⟩
theorem PEs.mo2 {a b : Expr} {t u : TE} (h : PEs X [a, b] [t, u]) : Mo u := by
  cases h with
  | cons _ _ _ h => cases h with
    | cons _ m _ _ => exact m
/-! ### operands as values -/
theorem all_cons {α : Type} {p : α → Bool} {a : α} {l : List α} (h : (a :: l).all p = true) : p a = true ∧ l.all p = true := Bool.and_eq_true_iff.mp h
theorem ops_vw {md : List Md} {σ : L2.St} {en : Sl} {H : Hp} {Z : Addr → Prop} {fp : List Addr} {rs all : List Root} (S : SR md σ en rs) (z : RepZ all H Z fp) (hs : ∀ r ∈ rs, r ∈ all) :
    ∀ {as : E} {vs : List V} {ds : List D} {ms : List Md} {tr : List Root}, Ops md σ en as vs ds ms tr → (∀ r ∈ tr, r ∈ all) → ms.all flatM = true → VwA H Z vs ds := by
  intro as vs ds ms tr o
  induction o with
  | nil => intro _ _; exact .nil
  | pk h1 h2 h3 _ ih =>
    intro ht hf
    obtain ⟨f1, f2⟩ := all_cons hf
    obtain ⟨v', m', e1, e2, e3⟩ := S.get h2
    rw [h1] at e1; cases e1
    rw [h3] at e2; cases e2
    obtain ⟨f, w, _⟩ := z.own.get (hs _ e3)
    exact .cons (w.vw f1) (ih ht f2)
  | lnt h1 h2 h3 _ ih =>
    intro ht hf
    obtain ⟨f1, f2⟩ := all_cons hf
    obtain ⟨v', m', e1, e2, e3⟩ := S.get h2
    rw [h1] at e1; cases e1
    rw [h3] at e2; cases e2
    obtain ⟨f, w, _⟩ := z.own.get (hs _ e3)
    exact .cons (w.vw f1) (ih ht f2)
  | tmp n _ ih =>
    intro ht hf
    obtain ⟨f1, f2⟩ := all_cons hf
    obtain ⟨f, w, _⟩ := z.own.get (ht _ (List.mem_cons_self ..))
    exact .cons (w.vw f1) (ih (fun r hr => ht r (List.mem_cons_of_mem _ hr)) f2)
/-- an operation where it has a meaning -/
theorem op_at {o : Op} {r : List V → Hp → VK → Prop} (od : OpD o r) {md : List Md} {σ : L2.St} {en : Sl} {H : Hp} {ts tr : List Root} {as : E} {vs : List V} {ds : List D} {ms : List Md} {fr : Bool} {d : D} {Q : VK}
    (R : RepS md σ en (tr ++ ts) H) (O : Ops md σ en as vs ds ms tr) (fl : ms.all flatM = true) (e : opR o fr ds = some d) (q : ∀ v H', RepS md σ en ((v, d, rmO fr) :: ts) H' → Q v H') : r vs H Q := by
  obtain ⟨rs, S, Z, fp, z⟩ := R
  have w := ops_vw S z (fun r h => List.mem_append_left _ h) O (fun r h => List.mem_append_right _ (List.mem_append_left _ h)) fl
  refine od fr _ H Z fp vs ds d Q z w e fun v H' R' => q v H' ⟨rs, S, ?_⟩
  have p : ((v, d, rmO fr) :: (rs ++ (tr ++ ts))).Perm (tr ++ (rs ++ (v, d, rmO fr) :: ts)) := by
    refine List.Perm.trans ?_ (List.perm_append_comm_assoc ..)
    refine List.Perm.trans (List.perm_middle.symm) ?_
    refine List.Perm.append_left rs ?_
    exact List.perm_middle.symm
  exact R'.sub p
theorem op_snd {o : Op} {r : List V → Hp → VK → Prop} (od : OpD o r) {md : List Md} {W : WX} {U : Ev} {as : E} {ms : List Md} {fr : Bool} {tes : List TE} (fl : ms.all flatM = true)
    (imp : ∀ σ H Q, tDL md W (evL U as) as ms σ H Q → chain tes σ H Q) : ∀ σ H Q, tD md (rmO fr) W (evE U (.op o fr as)) σ H Q → chain tes σ H fun vs H' => r vs H' Q := by
  intro σ H Q h
  obtain ⟨en, ts, R, P⟩ := h
  refine imp σ H _ ⟨en, ts, R, ?_⟩
  rw [show evE U (.op o fr as) en = (evL U as en).bind fun ds σ => ofO (opR o fr ds) σ by rw [evE]] at P
  refine P.bind.mono fun ds en' _ P2 vs H' tr R' O => ?_
  obtain ⟨d, e, q⟩ := P2.ofO
  exact op_at od R' O fl e q
end
end Dt
end
section
set_option Elab.async false
set_option linter.all false
set_option maxRecDepth 100000
set_option maxHeartbeats 4000000
/-! Each operation's form in the row. -/
namespace Dt
open PySem PySem.Spec PyProof.Rows L2
def OpOk (X : Cx) (o : Op) (e : Expr) (es : List Expr) : Prop := ∃ r, OpD o r ∧ ∀ tes, PEs X es tes → PE X e fun σ H Q => chain tes σ H fun vs H' => r vs H' Q
def OpT (X : Cx) (o : Op) (e : Expr) (es : List Expr) : Prop := ∃ r, OpD o r ∧ ∀ tes, PEs X es tes → PT X e fun σ H Q => chain tes σ H fun vs H' => r vs H' fun z H3 => ∃ k, z = .bl k ∧ Q k H3
section
variable {C : Ck} {U : Ev} {X : Cx} {e : Expr} {es : List Expr} {o : Op}
theorem binOf_ {op : Operator} (h : binOf op e = some es) : ∃ a b p, e = .BinOp a op b p ∧ es = [a, b] := by
  unfold binOf at h
  split at h
  · split at h
    · rename_i h2
      subst h2
      cases h
      exact ⟨_, _, _, rfl, rfl⟩
    · cases h
  · cases h
theorem bin_ok {op : Operator} {r : R2} (od : OpD2 o r) (ho : OpR X (binaryOp op) r) (h : binOf op e = some es) : OpOk X o e es := by
  obtain ⟨a, b, p, rfl, rfl⟩ := binOf_ h
  refine ⟨u2 r, od, fun tes T => ?_⟩
  obtain ⟨t, u, rfl, h1, h2, _⟩ := T.two
  exact PE.imp (pe_op ho h1 h2) fun σ H Q w => w
theorem cmpOf_ {op : CmpOp} (h : cmpOf op e = some es) : ∃ a b p, e = .Compare a [op] [b] p ∧ es = [a, b] ∧ behindInMarks op b = false := by
  unfold cmpOf at h
  split at h
  · split at h
    · rename_i h2
      simp only [Bool.and_eq_true, decide_eq_true_eq, Bool.not_eq_true'] at h2
      obtain ⟨rfl, h3⟩ := h2
      cases h
      exact ⟨_, _, _, rfl, rfl, h3⟩
    · cases h
  · cases h
theorem cmp_ok {op : CmpOp} {r : R2} (od : OpD2 o r) (ho : OpR X (compareOp op) r) (h : cmpOf op e = some es) : OpOk X o e es ∧ OpT X o e es := by
  obtain ⟨a, b, p, rfl, rfl, hm⟩ := cmpOf_ h
  refine ⟨⟨u2 r, od, fun tes T => ?_⟩, ⟨u2 r, od, fun tes T => ?_⟩⟩
  · obtain ⟨t, u, rfl, h1, h2, _⟩ := T.two
    exact PE.imp (pe_cmpR ho h1 h2 hm) fun σ H Q w => w
  · obtain ⟨t, u, rfl, h1, h2, _⟩ := T.two
    exact PT.imp (pt_cmpR ho h1 h2 hm) fun σ H Q w => w
theorem nonOf_ {op : CmpOp} (h : nonOf op e = some es) : ∃ a j p p2, e = .Compare a [op] [.Constant .none j p2] p ∧ es = [a] := by
  unfold nonOf at h
  split at h
  · split at h
    · rename_i h2
      subst h2
      cases h
      exact ⟨_, _, _, _, rfl, rfl⟩
    · cases h
  · cases h
theorem isN_ok (h : nonOf .Is e = some es) : OpOk X .isN e es ∧ OpT X .isN e es := by
  obtain ⟨a, j, p, p2, rfl, rfl⟩ := nonOf_ h
  refine ⟨⟨u1 rIsN, od_isN, fun tes T => ?_⟩, ⟨u1 rIsN, od_isN, fun tes T => ?_⟩⟩
  · obtain ⟨t, rfl, h1, _⟩ := T.one
    exact PE.imp (pe_cmp (pc_isN h1) (nomark _)) fun σ H Q w => w
  · obtain ⟨t, rfl, h1, _⟩ := T.one
    exact PT.imp (pt_cmp (pc_isN h1) (nomark _)) fun σ H Q w => w
theorem notN_ok (h : nonOf .IsNot e = some es) : OpOk X .notN e es ∧ OpT X .notN e es := by
  obtain ⟨a, j, p, p2, rfl, rfl⟩ := nonOf_ h
  refine ⟨⟨u1 rNotN, od_notN, fun tes T => ?_⟩, ⟨u1 rNotN, od_notN, fun tes T => ?_⟩⟩
  · obtain ⟨t, rfl, h1, _⟩ := T.one
    exact PE.imp (pe_cmp (pc_notN h1) (nomark _)) fun σ H Q w => w
  · obtain ⟨t, rfl, h1, _⟩ := T.one
    exact PT.imp (pt_cmp (pc_notN h1) (nomark _)) fun σ H Q w => w
theorem callB_ {n : Str} (h : callB C n e = some es) : ∃ x a r p pos, e = .Call (.Name x p) (a :: r) [] pos ∧ es = a :: r ∧ bltN C n x = true := by
  unfold callB at h
  split at h
  · split at h
    · cases h
      exact ⟨_, _, _, _, _, rfl, rfl, by assumption⟩
    · cases h
  · cases h
theorem one1_ {h0 : Option (List Expr)} (h : one1 h0 = some es) : h0 = some es ∧ ∃ a, es = [a] := by
  unfold one1 at h
  split at h
  · cases h; exact ⟨rfl, _, rfl⟩
  · cases h
theorem two2_ {h0 : Option (List Expr)} (h : two2 h0 = some es) : h0 = some es ∧ ∃ a b, es = [a, b] := by
  unfold two2 at h
  split at h
  · cases h; exact ⟨rfl, _, _, rfl⟩
  · cases h
theorem call_ok {n : Str} {id : String} {r : List V → Hp → VK → Prop} (O : XOk C U X) (hc : CallR X (.builtin id) r) (hv : bootBuiltins n = some (.builtin id)) (h : callB C n e = some es) :
    ∀ tes, PEs X es tes → PE X e fun σ H Q => chain tes σ H fun vs H' => r vs H' Q := by
  obtain ⟨x, a, l, p, pos, rfl, rfl, hb⟩ := callB_ h
  obtain ⟨rfl, g, m, nn, nd⟩ := bltN_ O hb
  intro tes T
  have pa := T.pa
  cases T with
  | cons n1 _ h1 t1 => exact PE.imp (pe_callB hc g m hv pa nn nd (star_no n1) t1.plain) fun σ H Q w => w
theorem callTy_ok {n : Str} {id : String} {r : List V → Hp → VK → Prop} (O : XOk C U X) (hc : CallR X (.type id) r) (hv : bootBuiltins n = some (.type id)) (h : callB C n e = some es) :
    ∀ tes, PEs X es tes → PE X e fun σ H Q => chain tes σ H fun vs H' => r vs H' Q := by
  obtain ⟨x, a, l, p, pos, rfl, rfl, hb⟩ := callB_ h
  obtain ⟨rfl, g, m, nn, nd⟩ := bltN_ O hb
  intro tes T
  have pa := T.pa
  cases T with
  | cons n1 _ h1 t1 => exact PE.imp (pe_callTy hc g m hv pa nn nd (star_no n1) t1.plain) fun σ H Q w => w
theorem c1_ok {n : Str} {r : List V → Hp → VK → Prop} (od : OpD1 o (c1 r)) (h : one1 (callB C n e) = some es) (k : callB C n e = some es → ∀ tes, PEs X es tes → PE X e fun σ H Q => chain tes σ H fun vs H' => r vs H' Q) : OpOk X o e es := by
  obtain ⟨h, a, rfl⟩ := one1_ h
  refine ⟨u1 (c1 r), od, fun tes T => PE.imp (k h tes T) fun σ H Q w => ?_⟩
  obtain ⟨t, rfl, _⟩ := T.one
  exact w
theorem c2_ok {n : Str} {r : List V → Hp → VK → Prop} (od : OpD2 o (c2 r)) (h : two2 (callB C n e) = some es) (k : callB C n e = some es → ∀ tes, PEs X es tes → PE X e fun σ H Q => chain tes σ H fun vs H' => r vs H' Q) : OpOk X o e es := by
  obtain ⟨h, a, b, rfl⟩ := two2_ h
  refine ⟨u2 (c2 r), od, fun tes T => PE.imp (k h tes T) fun σ H Q w => ?_⟩
  obtain ⟨t, u, rfl, _⟩ := T.two
  exact w
theorem isi_ok {n : Str} {id : String} (O : XOk C U X) (hv : bootBuiltins n = some (.type id)) (od : OpD1 o (rIs X.K id)) (h : isiOf C n e = some es) : OpOk X o e es := by
  unfold isiOf at h
  split at h
  · rename_i a y p hq
    split at h
    · rename_i hb
      cases h
      obtain ⟨y1, g, m, nn, nd⟩ := bltN_ O hb
      have py : PE X (.Name y p) (tC (.ty id)) := pe_bltn (u := .type id) g m (y1 ▸ hv) rfl nn nd
      refine ⟨u1 (rIs X.K id), od, fun tes T => ?_⟩
      cases T with
      | cons n1 m1 h1 t1 =>
      cases t1
      exact PE.imp (call_ok O call_isi boot_isinstance hq _ (.cons n1 m1 h1 (.cons rfl mo_tC py .nil))) fun σ H Q w => w
    · cases h
  · cases h
theorem rg_of (h : rgOf C e = some es) : ∃ x p pos y a l p2 pos2, e = .Call (.Name x p) [.Call (.Name y p2) (a :: l) [] pos2] [] pos ∧ es = a :: l ∧ bltN C "list" x = true ∧ bltN C "range" y = true := by
  unfold rgOf at h
  split at h
  · rename_i r hq
    obtain ⟨x, a, l, p, pos, rfl, e1, hb⟩ := callB_ hq
    cases e1
    obtain ⟨y, a, l, p2, pos2, rfl, rfl, hb2⟩ := callB_ h
    exact ⟨_, _, _, _, _, _, _, _, rfl, rfl, hb, hb2⟩
  · cases h
theorem cr_sortE (hc : X.calm = true) (hu : X.A.units + 67 < cLine) : CallR X (.builtin "sorted") (fun xs H Q => rSortD X.K xs H Q ∨ rSortDI xs H Q) := by
  intro pins s σ H xs us Q I r h
  rcases h with h | h
  · exact cr_sortD hu pins s σ H xs us Q I r h
  · exact cr_sortDI hc pins s σ H xs us Q I r h
theorem boot_sorted0 : bootBuiltins "sorted" = some (.builtin "sorted") := by decide +kernel
/-- the form of each operation is sound -/
theorem op_ok (O : XOk C U X) (h : opArgs C o e = some es) : OpOk X o e es := by
  have hu := O.un
  have hc := O.calm
  cases o with
  | add => exact bin_ok od_add (((op_add.or op_add_str).or op_catL).or op_catF) h
  | sub => exact bin_ok od_sub op_sub h
  | mul => exact bin_ok od_mul (op_mul.or op_repL) h
  | fdiv => exact bin_ok od_fdiv op_fdivN h
  | mod => exact bin_ok od_mod op_modN h
  | pow => exact bin_ok od_pow op_pow h
  | neg =>
    unfold opArgs at h
    simp only at h
    split at h
    · cases h
      refine ⟨u1 _, od_neg, fun tes T => ?_⟩
      obtain ⟨t, rfl, h1, _⟩ := T.one
      exact PE.imp (pe_un un_neg h1) fun σ H Q w => w
    · cases h
  | eq => exact (cmp_ok od_eq (op_eqD (by omega)) h).1
  | ne => exact (cmp_ok od_ne (op_neD (by omega)) h).1
  | lt => exact (cmp_ok od_lt (op_lt.or (op_ltD (by omega))) h).1
  | gt => exact (cmp_ok od_gt (op_gt.or (op_gtD (by omega))) h).1
  | le => exact (cmp_ok od_le op_le h).1
  | ge => exact (cmp_ok od_ge op_ge h).1
  | isIn => exact (cmp_ok od_isIn ((op_inS (by omega)).or (op_inDc (by omega))) h).1
  | notIn => exact (cmp_ok od_notIn ((op_notInS (by omega)).or (op_notInDc (by omega))) h).1
  | isN => exact (isN_ok h).1
  | notN => exact (notN_ok h).1
  | isB => exact (cmp_ok od_isB op_isBl h).1
  | notB => exact (cmp_ok od_notB op_notBl h).1
  | idx =>
    unfold opArgs at h
    simp only at h
    split at h
    · rename_i a b p
      split at h
      · rename_i hs
        cases h
        refine ⟨u2 _, od_idx (K := X.K), fun tes T => ?_⟩
        obtain ⟨t, u, rfl, h1, h2, _⟩ := T.two
        have ps : PlainIx b := fun o i => by cases b <;> first | rfl | cases hs
        exact PE.imp (pe_ix (ix_list.or (ix_tup.or (ix_dict (by omega)))) h1 h2 ps) fun σ H Q w => w
      · cases h
    · cases h
  | slice =>
    unfold opArgs at h
    simp only at h
    split at h
    · cases h
      refine ⟨r3Sl X.K, od_slice, fun tes T => ?_⟩
      obtain ⟨t, u, v, rfl, h1, h2, h3⟩ := T.three
      exact PE.imp (pe_sl3 h1 h2 h3) fun σ H Q w => w
    · cases h
  | sliceL =>
    unfold opArgs at h
    simp only at h
    split at h
    · cases h
      refine ⟨u2 _, od_sliceL (K := X.K), fun tes T => ?_⟩
      obtain ⟨t, u, rfl, h1, h2, _⟩ := T.two
      exact PE.imp (pe_slL h1 h2) fun σ H Q w => w
    · cases h
  | sliceH =>
    unfold opArgs at h
    simp only at h
    split at h
    · cases h
      refine ⟨u2 _, od_sliceH (K := X.K), fun tes T => ?_⟩
      obtain ⟨t, u, rfl, h1, h2, _⟩ := T.two
      exact PE.imp (pe_slH h1 h2) fun σ H Q w => w
    · cases h
  | rev =>
    unfold opArgs at h
    simp only at h
    split at h
    · cases h
      refine ⟨u1 _, od_rev (K := X.K), fun tes T => ?_⟩
      obtain ⟨t, rfl, h1, _⟩ := T.one
      exact PE.imp (pe_rev h1) fun σ H Q w => w
    · cases h
  | len => exact c1_ok od_len h (call_ok O cr_len boot_len)
  | int => exact c1_ok od_int h (callTy_ok O call_int1 PyProof.Rows.boot_int)
  | abs => exact c1_ok od_abs h (call_ok O call_abs boot_abs)
  | min1 => exact c1_ok od_min1 h (call_ok O (cr_minS false hc (by omega)) boot_min)
  | max1 => exact c1_ok od_max1 h (call_ok O (cr_minS true hc (by omega)) boot_max)
  | min2 => exact c2_ok od_min2 h (call_ok O (call_min2 hc) boot_min)
  | max2 => exact c2_ok od_max2 h (call_ok O (call_max2 hc) boot_max)
  | list => exact c1_ok od_list h (callTy_ok O call_list_of PyProof.Rows.boot_list)
  | tuple => exact c1_ok od_tuple h (callTy_ok O call_tuple_F PyProof.Rows.boot_tuple)
  | repr => exact c1_ok od_repr h (call_ok O (cr_repr O.gd (by omega)) boot_repr)
  | sorted => exact c1_ok od_sorted h (call_ok O (cr_sortE hc (by omega)) boot_sorted0)
  | all => exact c1_ok od_all h (call_ok O (cr_all hc) boot_all)
  | any => exact c1_ok od_any h (call_ok O (cr_any hc) boot_any)
  | isInt => exact isi_ok O PyProof.Rows.boot_int od_isInt h
  | isBool => exact isi_ok O PyProof.Rows.boot_bool od_isBool h
  | isTuple => exact isi_ok O PyProof.Rows.boot_tuple od_isTuple h
  | isList => exact isi_ok O PyProof.Rows.boot_list od_isList h
  | isStr => exact isi_ok O PyProof.Rows.boot_str od_isStr h
  | range1 =>
    obtain ⟨h, a, rfl⟩ := one1_ (show one1 (rgOf C e) = some es from h)
    obtain ⟨x, p, pos, y, a', l, p2, pos2, rfl, e1, hb, hb2⟩ := rg_of h
    cases e1
    obtain ⟨rfl, g, m, _⟩ := bltN_ O hb
    obtain ⟨rfl, g2, m2, _⟩ := bltN_ O hb2
    refine ⟨u1 _, od_range1, fun tes T => ?_⟩
    obtain ⟨t, rfl, h1, n1⟩ := T.one
    exact PE.imp (pe_rg1 hc g m g2 m2 h1 (star_no n1)) fun σ H Q w => w
  | range2 =>
    obtain ⟨h, a, b, rfl⟩ := two2_ (show two2 (rgOf C e) = some es from h)
    obtain ⟨x, p, pos, y, a', l, p2, pos2, rfl, e1, hb, hb2⟩ := rg_of h
    cases e1
    obtain ⟨rfl, g, m, _⟩ := bltN_ O hb
    obtain ⟨rfl, g2, m2, _⟩ := bltN_ O hb2
    refine ⟨u2 _, od_range2, fun tes T => ?_⟩
    obtain ⟨t, u, rfl, h1, h2, n1, n2⟩ := T.two
    have pl := (PEs.cons n2 T.mo2 h2 .nil).plain (pos := pos2)
    exact PE.imp (pe_rg2 hc g m g2 m2 h1 h2 (star_no n1) (star_no n2) pl) fun σ H Q w => w
  | _ => exact nomatch (show none = some es from h)
/-- comparisons, as tests -/
def isCmp : Op → Bool
  | .eq => true
  | .ne => true
  | .lt => true
  | .gt => true
  | .le => true
  | .ge => true
  | .isIn => true
  | .notIn => true
  | .isN => true
  | .notN => true
  | .isB => true
  | .notB => true
  | _ => false
theorem op_okT (O : XOk C U X) (h : opArgs C o e = some es) (hc : isCmp o = true) : OpT X o e es := by
  have hu := O.un
  cases o with
  | eq => exact (cmp_ok od_eq (op_eqD (by omega)) h).2
  | ne => exact (cmp_ok od_ne (op_neD (by omega)) h).2
  | lt => exact (cmp_ok od_lt (op_lt.or (op_ltD (by omega))) h).2
  | gt => exact (cmp_ok od_gt (op_gt.or (op_gtD (by omega))) h).2
  | le => exact (cmp_ok od_le op_le h).2
  | ge => exact (cmp_ok od_ge op_ge h).2
  | isIn => exact (cmp_ok od_isIn ((op_inS (by omega)).or (op_inDc (by omega))) h).2
  | notIn => exact (cmp_ok od_notIn ((op_notInS (by omega)).or (op_notInDc (by omega))) h).2
  | isN => exact (isN_ok h).2
  | notN => exact (notN_ok h).2
  | isB => exact (cmp_ok od_isB op_isBl h).2
  | notB => exact (cmp_ok od_notB op_notBl h).2
  | _ => cases hc
end
end Dt
end
section
set_option Elab.async false
set_option linter.all false
set_option maxRecDepth 100000
set_option maxHeartbeats 4000000
/-! Targets, iterables. -/
namespace Dt
open PySem PySem.Spec PyProof.Rows L2
/-! ### where states agree -/
def Agr (js : List Nat) (σ σ' : L2.St) : Prop := σ'.length = σ.length ∧ ∀ j, j ∉ js → σ'[j]? = σ[j]?
theorem Agr.refl {js : List Nat} {σ : L2.St} : Agr js σ σ := ⟨rfl, fun _ _ => rfl⟩
theorem Agr.trans {js ks : List Nat} {σ σ' σ'' : L2.St} (h : Agr js σ σ') (k : Agr ks σ' σ'') : Agr (js ++ ks) σ σ'' := ⟨k.1.trans h.1, fun j hj => (k.2 j fun z => hj (List.mem_append_right _ z)).trans (h.2 j fun z => hj (List.mem_append_left _ z))⟩
theorem Agr.mono {js ks : List Nat} {σ σ' : L2.St} (h : Agr js σ σ') (s : ∀ j ∈ js, j ∈ ks) : Agr ks σ σ' := ⟨h.1, fun j hj => h.2 j fun z => hj (s j z)⟩
theorem Agr.set {σ : L2.St} {i : Nat} {o : Option V} : Agr [i] σ (σ.set i o) := ⟨List.length_set, fun j hj => List.getElem?_set_ne fun e => hj (by rw [e]; exact List.mem_singleton.mpr rfl)⟩
theorem wipe_get (σ : L2.St) : ∀ (vs : List Nat) (j : Nat), (wipe σ vs)[j]? = if j ∈ vs then (if j < σ.length then some none else none) else σ[j]?
  | [], j => by simp [wipe]
  | v :: vs, j => by
    unfold wipe
    rw [List.getElem?_set, wipe_get σ vs j, wipe_length]
    by_cases e : v = j
    · subst e
      simp
    · have e' : j ≠ v := fun z => e z.symm
      rw [if_neg e]
      by_cases m : j ∈ vs
      · simp [m]
      · simp [m, e']
theorem Agr.wipe {vs : List Nat} {σ σ' : L2.St} (h : Agr vs σ σ') : L2.wipe σ' vs = L2.wipe σ vs := by
  apply List.ext_getElem?
  intro j
  rw [wipe_get, wipe_get, h.1]
  by_cases m : j ∈ vs
  · simp [m]
  · simp [m, h.2 j m]
theorem wipeD_get (en : Sl) : ∀ (vs : List Nat) (j : Nat), (wipeD en vs)[j]? = if j ∈ vs then (if j < en.length then some none else none) else en[j]?
  | [], j => by simp [wipeD]
  | v :: vs, j => by
    unfold wipeD
    have hl : ∀ vs : List Nat, (wipeD en vs).length = en.length := by
      intro vs
      induction vs with
      | nil => rfl
      | cons v vs ih => unfold wipeD; rw [List.length_set, ih]
    rw [List.getElem?_set, wipeD_get en vs j, hl]
    by_cases e : v = j
    · subst e
      simp
    · have e' : j ≠ v := fun z => e z.symm
      rw [if_neg e]
      by_cases m : j ∈ vs
      · simp [m]
      · simp [m, e']
theorem SR.agree {md : List Md} {σ : L2.St} {en : Sl} {rs : List Root} (h : SR md σ en rs) : ∀ {σ' : L2.St}, σ'.length = σ.length → (∀ (j : Nat) d, en[j]? = some (some d) → σ'[j]? = σ[j]?) → SR md σ' en rs := by
  induction h with
  | nil =>
    intro σ' e _
    cases σ' with
    | nil => exact .nil
    | cons x r => cases e
  | @live m md v σ d en rs h ih =>
    intro σ' e k
    cases σ' with
    | nil => cases e
    | cons x r =>
      have := k 0 d rfl
      simp at this
      subst this
      exact .live (ih (by simpa using e) fun j d hj => by simpa using k (j + 1) d (by simpa using hj))
  | @dead m md o σ en rs h ih =>
    intro σ' e k
    cases σ' with
    | nil => cases e
    | cons x r => exact .dead (ih (by simpa using e) fun j d hj => by simpa using k (j + 1) d (by simpa using hj))
theorem RepS.wipes {md : List Md} {σ : L2.St} {en : Sl} {ts : List Root} {H : Hp} (h : RepS md σ en ts H) : ∀ vs : List Nat, RepS md (wipe σ vs) (wipeD en vs) ts H
  | [] => h
  | v :: vs => (RepS.wipes h vs).kill v none
theorem RepS.agree {md : List Md} {σ σ' : L2.St} {en : Sl} {ts : List Root} {H : Hp} (h : RepS md σ en ts H) (e : σ'.length = σ.length) (k : ∀ (j : Nat) d, en[j]? = some (some d) → σ'[j]? = σ[j]?) : RepS md σ' en ts H := by
  obtain ⟨rs, h1, h2⟩ := h
  exact ⟨rs, h1.agree e k, h2⟩
theorem RepS.unwipe {md : List Md} {σ : L2.St} {en : Sl} {ts : List Root} {H : Hp} {vs : List Nat} (h : RepS md (wipe σ vs) (wipeD en vs) ts H) : RepS md σ (wipeD en vs) ts H := by
  refine h.agree (wipe_length ..).symm fun j d e => ?_
  rw [wipeD_get] at e
  rw [wipe_get]
  by_cases m : j ∈ vs
  · rw [if_pos m] at e
    split at e
    · cases e
    · cases e
  · rw [if_neg m]
/-! ### targets -/
def tgs : Tg → List Nat
  | .v i => [i]
  | .nil => []
  | .cons a b => tgs a ++ tgs b
def tgE (C : Ck) (md : List Md) : Tg → Expr → Bool
  | .v i, .Name x _ => okT C i x && decide (md[i]? = some .F)
  | .nil, .Tuple [] _ _ => true
  | .cons a b, .Tuple (x :: xs) k p => tgE C md a x && tgE C md b (.Tuple xs k p)
  | _, _ => false
def fRoots (vs : List V) (ds : List D) : List Root := (vs.zip ds).map fun p => (p.1, p.2, .F)
/-- what is walked may be a tuple that only its items tell -/
def ItR (wk : Bool) (x : V) (d : D) (H : Hp) (rs : List Root) : Prop := if wk = true then ∃ a xs ds, x = .ref a ∧ d = .tuple ds ∧ H a = some (.tup xs) ∧ xs.length = ds.length ∧ Rep (fRoots xs ds ++ rs) H else Rep ((x, d, .F) :: rs) H
def ItS (wk : Bool) (md : List Md) (σ : L2.St) (en : Sl) (x : V) (d : D) (ts : List Root) (H : Hp) : Prop := if wk = true then ∃ a xs ds, x = .ref a ∧ d = .tuple ds ∧ H a = some (.tup xs) ∧ xs.length = ds.length ∧ RepS md σ en (fRoots xs ds ++ ts) H else RepS md σ en ((x, d, .F) :: ts) H
theorem ItR.split {wk : Bool} {x : V} {d : D} {H : Hp} {rs : List Root} (h : ItR wk x d H rs) : ∃ l : List Root, Rep (l ++ rs) H ∧ ∀ md σ en ts, RepS md σ en (l ++ ts) H → ItS wk md σ en x d ts H := by
  unfold ItR at h
  unfold ItS
  cases wk with
  | false => exact ⟨[(x, d, .F)], h, fun md σ en ts k => k⟩
  | true =>
    obtain ⟨a, xs, ds, e1, e2, e3, e4, h⟩ := h
    exact ⟨fRoots xs ds, h, fun md σ en ts k => ⟨a, xs, ds, e1, e2, e3, e4, k⟩⟩
def isV : Tg → Bool
  | .v _ => true
  | _ => false
def gD (wk : Bool) (md : List Md) (tg : Tg) : TG := fun v σ H Q => ∃ en ts d, ItS wk md σ en v d ts H ∧ ∃ en', asgT tg d en = some en' ∧ ∀ σ', RepS md σ' en' ts H → Agr (tgs tg) σ σ' → Q σ' H
def gsD (md : List Md) (tg : Tg) : TGs := fun vs σ H Q => ∃ en ts ds, vs.length = ds.length ∧ RepS md σ en (fRoots vs ds ++ ts) H ∧ ∃ en', asgT tg (.tuple ds) en = some en' ∧ ∀ σ', RepS md σ' en' ts H → Agr (tgs tg) σ σ' → Q σ' H
theorem asg_each {C : Ck} {md : List Md} {x : Expr} {a : Tg} {es : List Expr} {env : Env} (h : tgE C md a x = true) : assignEach (x :: es) env = (false, assign x env) :: assignEach es env := by
  cases x <;> first | rfl | (cases a <;> cases h)
theorem asg_len {C : Ck} {md : List Md} {env : Env} {k : Nat} {p : Pos} : ∀ {es : List Expr} {tg : Tg}, tgE C md tg (.Tuple es k p) = true → (assignEach es env).length = es.length ∧ (assignEach es env).findIdx? (·.1) = none
  | [], _, _ => ⟨rfl, rfl⟩
  | x :: xs, tg, h => by
    cases tg with
    | v i => cases h
    | nil => cases h
    | cons a b =>
      obtain ⟨h1, h2⟩ := Bool.and_eq_true_iff.mp (show (tgE C md a x && tgE C md b (.Tuple xs k p)) = true from h)
      obtain ⟨e1, e2⟩ := asg_len (env := env) h2
      rw [asg_each h1]
      refine ⟨by rw [List.length_cons, List.length_cons, e1], ?_⟩
      rw [List.findIdx?_cons]
      simp [e2]
theorem rdA_roots {H : Hp} {Z : Addr → Prop} : ∀ {vs : List V} {ds : List D} {rs : List Root} {fp : List Addr}, RdA H Z vs ds → RepZ rs H Z fp → RepZ (fRoots vs ds ++ rs) H Z fp
  | _, _, _, _, .nil, z => z
  | _, _, _, fp, @RdA.cons _ _ v vs d ds h t, z => by
    have z' := rdA_roots t z
    exact ⟨.cons (f := []) ⟨h, rfl⟩ z'.own, z'.nd, z'.off, z'.dom⟩
/-- a tuple's items as roots -/
theorem RepS.items {md : List Md} {σ : L2.St} {en : Sl} {ts : List Root} {H : Hp} {v : V} {ds : List D} (h : RepS md σ en ((v, .tuple ds, .F) :: ts) H) : ∃ a xs, v = .ref a ∧ L2.Rd H a (.tup xs) ∧ xs.length = ds.length ∧ RepS md σ en (fRoots xs ds ++ ts) H := by
  obtain ⟨rs, S, h2⟩ := h
  obtain ⟨Z, fp, z⟩ := h2.perm (perm_out)
  cases id z.own with
  | cons w t =>
    obtain ⟨w, e⟩ := w
    subst e
    obtain ⟨a, xs, rfl, ⟨o, n, e1⟩, r⟩ := w.vw
    refine ⟨a, xs, rfl, .inr ⟨o, e1⟩, r.length, rs, S, ?_⟩
    have z2 : RepZ (rs ++ ts) H Z _ := ⟨t, z.nd, z.off, z.dom⟩
    have z3 : Rep (fRoots xs ds ++ (rs ++ ts)) H := ⟨_, _, rdA_roots r z2⟩
    refine z3.perm ?_
    rw [← List.append_assoc, ← List.append_assoc]
    exact (List.perm_append_comm).append_right ts
theorem ItS.items {wk : Bool} {md : List Md} {σ : L2.St} {en : Sl} {ts : List Root} {H : Hp} {v : V} {ds : List D} (h : ItS wk md σ en v (.tuple ds) ts H) : ∃ a xs, v = .ref a ∧ L2.Rd H a (.tup xs) ∧ xs.length = ds.length ∧ RepS md σ en (fRoots xs ds ++ ts) H := by
  unfold ItS at h
  cases wk with
  | false => exact RepS.items h
  | true =>
    obtain ⟨a, xs, ds', e1, e2, e3, e4, h⟩ := h
    cases e2
    exact ⟨a, xs, e1, .inl e3, e4, h⟩
section
variable {C : Ck} {U : Ev} {X : Cx}
mutual
theorem pg_snd {md : List Md} {wk : Bool} (O : XOk C U X) : ∀ {tg : Tg} {e : Expr}, tgE C md tg e = true → (wk = true → isV tg = false) → PG X e (gD wk md tg)
  | .v i, e, h => fun hw => by
    cases e with
    | Name x p =>
      obtain ⟨h1, h3⟩ := Bool.and_eq_true_iff.mp (show (okT C i x && decide (md[i]? = some .F)) = true from h)
      obtain ⟨h1, h2⟩ := Bool.and_eq_true_iff.mp (show (decide (C.N[i]? = some x) && sto C x) = true from h1)
      have h1 := of_decide_eq_true h1
      have h3 := of_decide_eq_true h3
      obtain ⟨l, f⟩ := O.sto h2
      refine ⟨fun pins s σ H v u Q I r w => (pg_name (i := i) O.nd (by rw [O.N]; exact h1) l f).run pins s σ H v u Q I r ?_⟩
      obtain ⟨en, ts, d, R, en', e1, q⟩ := w
      cases e1
      cases wk with
      | true => cases hw rfl
      | false => exact q _ (RepS.set R h3) Agr.set
    | _ => cases h
  | .nil, e, h => fun hw => by
    cases e with
    | Tuple es k p =>
      cases es with
      | cons x xs => cases h
      | nil =>
        refine ⟨fun pins s σ H v u Q I r w => (pg_tup (n := 0) O.calm pgs_nil).run pins s σ H v u Q I r ?_⟩
        obtain ⟨en, ts, d, R, en', e1, q⟩ := w
        cases d with
        | tuple ds =>
          cases ds with
          | nil =>
            cases e1
            obtain ⟨a, xs, rfl, e2, e3, R2⟩ := R.items
            have e3 : xs = [] := List.eq_nil_of_length_eq_zero e3
            subst e3
            exact ⟨a, [], rfl, .inl e2, rfl, rfl, q σ R2 Agr.refl⟩
          | cons x xs => cases e1
        | _ => cases e1
    | _ => cases h
  | .cons a b, e, h => fun hw => by
    cases e with
    | Tuple es k p =>
      obtain ⟨e1, e2⟩ := asg_len (env := X.env) h
      refine ⟨fun pins s σ H v u Q I r w => (pg_tup (n := es.length) O.calm (pgs_snd O h) e1 e2).run pins s σ H v u Q I r ?_⟩
      obtain ⟨en, ts, d, R, en', e1, q⟩ := w
      cases d with
      | tuple ds =>
        obtain ⟨a', xs, rfl, e2, e3, R2⟩ := R.items
        have hl : ∀ {tg : Tg} {es : List Expr} {ds : List D} {en en' : Sl}, tgE C md tg (.Tuple es k p) = true → asgT tg (.tuple ds) en = some en' → ds.length = es.length := by
          intro tg
          induction tg with
          | v i => intro es ds en en' h; cases h
          | nil =>
            intro es ds en en' h e
            cases es with
            | cons _ _ => cases h
            | nil =>
              cases ds with
              | nil => rfl
              | cons _ _ => cases e
          | cons a b iha ihb =>
            intro es ds en en' h e
            cases es with
            | nil => cases h
            | cons x xs =>
              cases ds with
              | nil => cases e
              | cons d ds =>
                obtain ⟨en1, _, e2⟩ := Option.bind_eq_some_iff.mp (show (asgT a d en).bind _ = some en' from e)
                obtain ⟨_, h2⟩ := Bool.and_eq_true_iff.mp (show (tgE C md a x && tgE C md b (.Tuple xs k p)) = true from h)
                rw [List.length_cons, List.length_cons, ihb h2 e2]
        exact ⟨a', xs, rfl, .inl e2, by rw [e3]; exact hl h e1, en, ts, ds, e3, R2, en', e1, q⟩
      | _ => cases e1
    | _ => cases h
theorem pgs_snd {md : List Md} (O : XOk C U X) : ∀ {tg : Tg} {es : List Expr} {k : Nat} {p : Pos}, tgE C md tg (.Tuple es k p) = true → PGs X es (gsD md tg)
  | .v i, es, k, p, h => by cases h
  | .nil, es, k, p, h => by
    cases es with
    | cons _ _ => cases h
    | nil =>
      refine ⟨fun pins s σ H vs us Q I r w => pgs_nil.run pins s σ H vs us Q I r ?_⟩
      obtain ⟨en, ts, ds, hl, R, en', e1, q⟩ := w
      cases ds with
      | nil =>
        have : vs = [] := List.eq_nil_of_length_eq_zero hl
        subst this
        cases e1
        exact ⟨rfl, q σ R Agr.refl⟩
      | cons _ _ => cases e1
  | .cons a b, es, k, p, h => by
    cases es with
    | nil => cases h
    | cons x xs =>
      obtain ⟨h1, h2⟩ := Bool.and_eq_true_iff.mp (show (tgE C md a x && tgE C md b (.Tuple xs k p)) = true from h)
      have hs : (assignEach (x :: xs) X.env).map (·.2) = assign x X.env :: (assignEach xs X.env).map (·.2) := by rw [asg_each h1]; rfl
      refine ⟨fun pins s σ H vs us Q I r w => (pgs_cons (pg_snd (wk := false) O h1 (fun z => nomatch z)) (pgs_snd O h2) hs).run pins s σ H vs us Q I r ?_⟩
      obtain ⟨en, ts, ds, hl, R, en', e1, q⟩ := w
      cases ds with
      | nil => cases e1
      | cons d ds =>
        cases vs with
        | nil => cases hl
        | cons v vs =>
          obtain ⟨en1, e2, e3⟩ := Option.bind_eq_some_iff.mp (show (asgT a d en).bind _ = some en' from e1)
          refine ⟨v, vs, rfl, en, fRoots vs ds ++ ts, d, R, en1, e2, fun σ1 R1 a1 => ⟨en1, ts, ds, by simpa using hl, R1, en', e3, fun σ2 R2 a2 => q σ2 R2 (a1.trans a2)⟩⟩
end
end
end Dt
end
section
set_option Elab.async false
set_option linter.all false
set_option maxRecDepth 100000
set_option maxHeartbeats 4000000
/-! enumerate over a tuple. -/
namespace Dt
open PySem PySem.Spec PyProof.Rows L2
theorem meets_enumerate_newT {v : Value} {o : Obj} {H : Heap → Prop} (B : Begins v o H) :
    Meets (Builtin.«enumerate.__new__» ⟨[.type "enumerate", v], []⟩) (fun _ R s => H s.heap ∧
      R (.ok (.ret (.ref (s.heap.push o).objs.size))) { s with heap := (s.heap.push o).push { cls := .type "enumerate", data := .fields #[.none, .bool false, .ref s.heap.objs.size, rawInt 0, .none, .none] } }) :=
  .of_wp fun prog w A R s h => by
    obtain ⟨hp, g, d, tk, os⟩ := s; obtain ⟨h1, h⟩ := h
    have hsub := sub_enumerate
    have q1 : ∀ {A' : Around} {E : Value → Shared → Prop} {Q : Value → Shared → Prop}, Q (.ref hp.objs.size) ⟨hp.push o, g, d, tk, os⟩ → wpAny (model prog w) A' (pyIter v) Q E ⟨hp, g, d, tk, os⟩ :=
      fun q => B.iter prog w _ _ ⟨hp, g, d, tk, os⟩ _ h1 q
    wp_walk using q1
    refine wpAny_stack_any fun st => wpAny_pure ?_
    split
    · rename_i c _ _ _ _ _
      cases (c == Value.type "enumerate")
      · wp_walk using q1
        exact ⟨_, rfl, h⟩
      · wp_walk using q1
        exact ⟨_, rfl, h⟩
    · wp_walk using q1
      exact ⟨_, rfl, h⟩
section
variable {prog : Program} {w : World} {A : Around} {E : Value → Shared → Prop} {s : Shared}
theorem enum_begins1 {v : Value} {o : Obj} {H : Heap → Prop} {Q : Value → Shared → Prop} (B : Begins v o H) (h1 : H s.heap)
    (h : ∀ h', IsEnum h' (s.heap.objs.size + 1) s.heap.objs.size 0 .none → h'.get? s.heap.objs.size = some o → h'.objs.size = s.heap.objs.size + 2 →
      (∀ b o, s.heap.get? b = some o → h'.get? b = some o) → Q (.ref (s.heap.objs.size + 1)) { s with heap := h' }) :
    wpAny (model prog w) A (call (.type "enumerate") [v]) Q E s := by
  refine callType_new F.called_enumerate (by decide) (F.typeCall_enumerate_1 _) (F.newCall_enumerate_1 _) (fun obj => F.args_object_init_2 obj _) F.entry_enumerate_new
    (meets_enumerate_newT B) ⟨h1, ?_⟩
  have hz : (s.heap.push o).objs.size = s.heap.objs.size + 1 := Heap.size_push ..
  show _ ∧ _
  rw [hz]
  have he : IsEnum ((s.heap.push o).push { cls := .type "enumerate", data := .fields #[.none, .bool false, .ref s.heap.objs.size, rawInt 0, .none, .none] }) (s.heap.objs.size + 1) s.heap.objs.size 0 .none := by
    have := Heap.get?_push_size (s.heap.push o) (o := { cls := .type "enumerate", data := .fields #[.none, .bool false, .ref s.heap.objs.size, rawInt 0, .none, .none] }) rfl
    rw [hz] at this; exact this
  refine ⟨⟨_, he, rfl⟩, h _ he (Heap.get?_push_of_some _ (Heap.get?_push_size _ B.free)) (by rw [Heap.size_push, hz]) fun b o x => Heap.get?_push_of_some _ (Heap.get?_push_of_some _ x)⟩
end
/-- the tuple at a as it stands at each turn, each item in a new pair -/
def IteT (K : PySem.W.Frag) (a : Addr) : It :=
  ⟨fun i H => ∃ (xs : List V) (x : V), SqT K H a xs ∧ xs[i]? = some x, fun i H v H' => ∃ T x, v = .ref T ∧ H T = none ∧ H' = upd H T (.tup [.int (i : Nat), x]) ∧ ∀ xs, SqT K H a xs → xs[i]? = some x, fun i H => ∃ xs : List V, SqT K H a xs ∧ xs.length ≤ i⟩
theorem turn_enumT {P : Program} {w : World} {K : PySem.W.Frag} {elts : List Expr} {kk : Nat} {tpos : Pos} (a e it : Addr) :
    Turn P w K (.Tuple elts kk tpos) (IteT K a) [e, it] e (fun i h => (∃ old, IsEnum h e it ((i : Nat) : Int) old) ∧ h.IsTupleIter it a i ∧ e ≠ it) where
  mem := by simp
  obj := fun i h st b hb => by
    obtain ⟨⟨old, he⟩, ⟨o, ho, hc, hd⟩, _⟩ := st
    have e' : b = e ∨ b = it := by simpa using hb
    rcases e' with z | z
    · rw [z]; exact ⟨_, he, fun v q => nomatch q⟩
    · rw [z]; exact ⟨o, ho, fun v q => by rw [hd] at q; cases q⟩
  keep := fun i h h' st k => let ⟨⟨old, he⟩, hi, hne⟩ := st; ⟨⟨old, k e (by simp) _ he⟩, hi.at fun o q => k it (by simp) o q, hne⟩
  item := by
    intro X hP hw hK hc i pins s σ H E I hf st hg
    subst hP hw hK
    obtain ⟨⟨old, he⟩, hit, hne⟩ := st
    obtain ⟨xs, x, hq, hx⟩ := hg
    obtain ⟨its, rv, p, hz⟩ := I.tuple hq
    obtain ⟨u, hu, ru⟩ := rv.get hx
    have hel : e < s.heap.objs.size := Heap.lt_size he
    have hil : it < s.heap.objs.size := by obtain ⟨_, q, _⟩ := hit; exact Heap.lt_size q
    have hea : e ≠ a := fun q => by
      obtain ⟨o1, h1, h2, _⟩ := p
      subst q
      have he2 := he
      unfold IsEnum at he2
      rw [h1] at he2
      have e3 := Option.some.inj he2
      rw [e3] at h2
      exact absurd (Value.type.inj h2) (by decide)
    have hia : a ≠ it := fun q => by
      obtain ⟨o1, h1, h2, _⟩ := p
      obtain ⟨o2, g1, g2, _⟩ := hit
      subst q
      rw [h1] at g1
      cases g1
      rw [h2] at g2
      exact absurd (Value.type.inj g2) (by decide)
    have D := Draws.tuple (prog := X.prog) (w := X.w) (A := X.A.in1) (I.ok.hd hc) it a hia its.toArray
    have hlt : i < its.toArray.size := by
      have := (List.getElem?_eq_some_iff.mp hu).1
      simpa using this
    refine wpAny_pyNext_enum_itemD D he ⟨hit, show s.heap.IsTuple a its.toArray from p⟩ hlt hne (by simp [hne, hea]) fun x1 h' tk hP1 ho hst' hT hsz hk => ?_
    have hx1 : x1 = u := by
      have : its.toArray[i]? = some u := by simpa using hu
      rw [this] at hP1
      exact (Option.some.inj hP1).symm
    subst hx1
    refine ⟨_, rfl, wpAny_letOwnedTupleGo_enum (s := { s with heap := h', toks := tk + 1 }) ho fun h'' he' sb => ?_⟩
    have hT2 : h''.get? s.heap.objs.size = some { cls := .type "tuple", data := .seq #[.int i tk, x1] } := (sb.2 _ (Nat.ne_of_gt hel)).trans hT
    have new : ObjOk X.prog X.w (upd H s.heap.objs.size (.tup [.int (i : Nat), x])) h'' s.heap.objs.size (.tup [.int (i : Nat), x]) :=
      ⟨by show 2 ≤ sizeLine; decide, [.int i tk, x1], .cons ⟨_, rfl⟩ (.cons ru .nil), ⟨_, hT2, rfl, _, rfl⟩⟩
    have I1 : L2.Inv X pins σ (upd H s.heap.objs.size (.tup [.int (i : Nat), x])) { s with heap := h'', toks := tk + 1 } :=
      I.turnedNew (ch := [e, it]) (fun b ob hb q => (sb.2 b (fun z => hb (by simp [z]))).trans (hk b ob (fun z => hb (by simp [z])) (fun z => hb (by simp [z])) q)) hf (Nat.le_refl _) new
    refine ⟨.ref s.heap.objs.size, _, I1, rfl, ⟨_, x, rfl, I.hok.fresh (Nat.le_refl _), rfl, fun ys hy => by rw [I.tuple_inj hy hq]; exact hx⟩, ⟨⟨x1, ?_⟩, hst'.1.at fun o q => (sb.2 it (Ne.symm hne)).trans q, hne⟩, fun b hb => ?_⟩
    · have e1 : ((i + 1 : Nat) : Int) = (i : Int) + 1 := by omega
      rw [e1]; exact he'
    · have hb' : b < s.heap.objs.size := by
        have e' : b = e ∨ b = it := by simpa using hb
        rcases e' with z | z
        · rw [z]; exact hel
        · rw [z]; exact hil
      rw [upd_ne (Nat.ne_of_lt hb')]
      exact (hf b hb).1
  done := by
    intro X hP hw hK hc i pins s σ H E I hf st hg
    subst hP hw hK
    obtain ⟨⟨old, he⟩, hit, hne⟩ := st
    obtain ⟨xs, hq, hx⟩ := hg
    obtain ⟨its, rv, p, hz⟩ := I.tuple hq
    obtain ⟨f0, f1, f2, f3, f4, f5⟩ := hf it (by simp)
    have hl := rv.length
    have hT : s.TypeIs (.ref e) "enumerate" := ⟨_, he, rfl⟩
    unfold pyNext
    refine wpAny_bind (wpAny_attempt (wpAny_callSpecial?_slot (name := Str.ofString "__next__") hT F.slot_enumerate_next
      (wpAny_call_entry F.slot_enumerate_next hT F.entry_enumerate_next ?_ (F.args_enumerate_next_1 _))))
    show wpAny _ _ (field (.ref e) 2 >>= _) _ _ _
    refine wpAny_bind (wpAny_field he rfl (x := .ref it) rfl ?_)
    refine wpAny_bind (wpAny_nextOf_tuple_end (I.ok.hd hc) hit (show s.heap.IsTuple a its.toArray from p) (by simp; omega) fun h' x he' hx' => ?_)
    obtain ⟨o, ho, hc⟩ := hx'
    refine wpAny_bind (wpAny_isInstance (T := "StopIteration") (b := true) ⟨o, ho, hc⟩ isSubtype_stop ?_)
    exact wpAny_pure ⟨rfl, I.turned (t' := s.toks) (fun b o hb q => he' b o hb q) f0 f1 f3 f4 f5⟩
  self := fun A i s Q E st h => let ⟨⟨_, he⟩, _⟩ := st; wpAny_pyIter_enum he h
def iEnumA (K : PySem.W.Frag) (ta : TA) : TI := fun σ H R => ta σ H fun vs H1 => ∃ a xs, vs = [.ref a] ∧ ((SqL K H1 a xs ∧ R (Ite K a) H1) ∨ (SqT K H1 a xs ∧ R (IteT K a) H1))
theorem pi_enumA {X : Cx} {e : Expr} {ta : TA} {p pos tpos : Pos} {elts : List Expr} {kk : Nat} (hg : Gl X "enumerate") (hm : X.mg "enumerate" = none) (ha : PA X [e] ta) (hs : starEach [e] X.env = [(false, eval e X.env)]) :
    PI X (.Tuple elts kk tpos) (.Call (.Name "enumerate" p) [e] [] pos) (iEnumA X.K ta) := by
  refine ⟨fun pins s σ H R I h => ?_⟩
  refine Call_ (ld_blt I hg hm boot_enumerate (PyProof.Rows.callWith_type1 (thn (ha.run pos pins s σ H _ I h) fun us s1 ⟨vs, H1, I1, r1, q1⟩ => ?_) hs rfl))
  obtain ⟨a, xs, ex, q⟩ := q1
  subst ex
  cases r1 with
  | cons r rr =>
    cases rr
    cases r
    rcases q with ⟨hq, q⟩ | ⟨hq, q⟩
    · obtain ⟨its, rv, p', hz⟩ := I1.list hq
      refine call_enumerate_list p'.isList fun h' he hit hsz hk => wpAny_pyIter_enum he ?_
      have I2 : L2.Inv X pins σ H1 { s1 with heap := h' } := I1.kept (t' := s1.toks) hk
      refine ⟨s1.heap.objs.size + 1, [s1.heap.objs.size + 1, s1.heap.objs.size], _, _, H1, rfl, I2, turn_enum a (s1.heap.objs.size + 1) s1.heap.objs.size, ⟨⟨.none, he⟩, hit, Nat.succ_ne_self _⟩, fun b hb => ?_, q⟩
      have e' : b = s1.heap.objs.size + 1 ∨ b = s1.heap.objs.size := by simpa using hb
      have hle : s1.heap.objs.size ≤ b := by
        rcases e' with z | z
        · rw [z]; exact Nat.le_add_right _ _
        · rw [z]; exact Nat.le_refl _
      exact I1.fpOk hle (I1.hok.fresh hle)
    · obtain ⟨its, rv, p', hz⟩ := I1.tuple hq
      refine enum_begins1 (begins_tuple a its.toArray) (show s1.heap.IsTuple a its.toArray from p') fun h' he hit hsz hk => wpAny_pyIter_enum he ?_
      have I2 : L2.Inv X pins σ H1 { s1 with heap := h' } := I1.kept (t' := s1.toks) hk
      refine ⟨s1.heap.objs.size + 1, [s1.heap.objs.size + 1, s1.heap.objs.size], _, _, H1, rfl, I2, turn_enumT a (s1.heap.objs.size + 1) s1.heap.objs.size, ⟨⟨.none, he⟩, ⟨_, hit, rfl, rfl⟩, Nat.succ_ne_self _⟩, fun b hb => ?_, q⟩
      have e' : b = s1.heap.objs.size + 1 ∨ b = s1.heap.objs.size := by simpa using hb
      have hle : s1.heap.objs.size ≤ b := by
        rcases e' with z | z
        · rw [z]; exact Nat.le_add_right _ _
        · rw [z]; exact Nat.le_refl _
      exact I1.fpOk hle (I1.hok.fresh hle)
end Dt
end
section
set_option Elab.async false
set_option linter.all false
set_option maxRecDepth 100000
set_option maxHeartbeats 4000000
/-! What loops and comprehensions walk. -/
namespace Dt
open PySem PySem.Spec PyProof.Rows L2
/-- which walks make their items anew -/
def wkI : Ik → Bool
  | .enum => true
  | .zip => true
  | _ => false
def Walk (wk : Bool) (J : It) (items : List D) (tr : List Root) : Prop := ∀ (i : Nat) (H : Hp) (rs : List Root), Rep (tr ++ rs) H →
  (items.length ≤ i → J.stop i H) ∧ ∀ d, items[i]? = some d → J.go i H ∧ ∀ x H', J.yld i H x H' → ItR wk x d H' (tr ++ rs)
def iD (wk : Bool) (md : List Md) (W : WX) (m : Sl → Out (List D)) : TI := fun σ H R => ∃ en ts, RepS md σ en ts H ∧ Post md W σ ts (m en) fun items en' => ∀ J H' tr, RepS md σ en' (tr ++ ts) H' → Walk wk J items tr → R J H'
def ItD (ik : Ik) (r : List V → Hp → (It → Hp → Prop) → Prop) : Prop := ∀ (H : Hp) (Z : Addr → Prop) (vs : List V) (ds items : List D) (R : It → Hp → Prop), RdA H Z vs ds → itemsF ik ds = some items → (∀ J, Walk (wkI ik) J items (fRoots vs ds) → R J H) → r vs H R
theorem PI.imp {X : Cx} {tg e : Expr} {t t' : TI} (h : PI X tg e t) (q : ∀ σ H Q, t' σ H Q → t σ H Q) : PI X tg e t' := ⟨fun pins s σ H Q I w => h.run pins s σ H Q I (q σ H Q w)⟩
/-- the first root of a heap -/
theorem Rep.head {v : V} {d : D} {rs : List Root} {H : Hp} (h : Rep ((v, d, .F) :: rs) H) : ∃ Z fp, RepZ rs H Z fp ∧ Dt.Rd H Z v d := by
  obtain ⟨Z, fp, z⟩ := h
  cases id z.own with
  | cons w t =>
    obtain ⟨w, e⟩ := w
    subst e
    exact ⟨Z, _, ⟨t, z.nd, z.off, z.dom⟩, w⟩
theorem Rep.keep1 {v : V} {d : D} {r : Root} {rs : List Root} {H : Hp} {Z : Addr → Prop} {fp : List Addr} (z : RepZ rs H Z fp) (w : Dt.Rd H Z v d) (h : RepZ (r :: rs) H Z fp) : Rep (r :: (v, d, .F) :: rs) H :=
  (h.cons_rd w).perm (.swap _ _ _)
section
variable {K : PySem.W.Frag}
theorem walk_list {a : Addr} {ds : List D} : Walk false (Itl K a) ds [(.ref a, .list ds, .F)] := by
  intro i H rs R
  obtain ⟨Z, fp, z, w⟩ := R.head
  obtain ⟨a', xs, e, l, r⟩ := w.vw
  cases e
  refine ⟨fun hi => ⟨xs, l.sq, by rw [r.length]; exact hi⟩, fun d hd => ?_⟩
  obtain ⟨v, e1, rv⟩ := r.get hd
  refine ⟨⟨xs, v, l.sq, e1⟩, fun x H' hy => ?_⟩
  obtain ⟨rfl, hy⟩ := hy
  have := hy xs l.sq
  rw [e1] at this
  cases this
  exact (show RepZ ((.ref a, .list ds, .F) :: rs) H' Z ([] ++ fp) from ⟨.cons ⟨w, rfl⟩ z.own, z.nd, z.off, z.dom⟩).cons_rd rv
theorem walk_tup {a : Addr} {ds : List D} : Walk false (Itt K a) ds [(.ref a, .tuple ds, .F)] := by
  intro i H rs R
  obtain ⟨Z, fp, z, w⟩ := R.head
  obtain ⟨a', xs, e, l, r⟩ := w.vw
  cases e
  have l' : SqT K H a xs := l.sq
  refine ⟨fun hi => ⟨xs, l', by rw [r.length]; exact hi⟩, fun d hd => ?_⟩
  obtain ⟨v, e1, rv⟩ := r.get hd
  refine ⟨⟨xs, v, l', e1⟩, fun x H' hy => ?_⟩
  obtain ⟨rfl, hy⟩ := hy
  have := hy xs l'
  rw [e1] at this
  cases this
  exact (show RepZ ((.ref a, .tuple ds, .F) :: rs) H' Z ([] ++ fp) from ⟨.cons ⟨w, rfl⟩ z.own, z.nd, z.off, z.dom⟩).cons_rd rv
theorem walk_range {lo hi : Int} {tr : List Root} : Walk false (Itr lo (hi - lo).toNat) (rangeD lo hi) tr := by
  intro i H rs R
  have hl : (rangeD lo hi).length = (hi - lo).toNat := by unfold rangeD; rw [List.length_map, List.length_range]
  refine ⟨fun h => ?_, fun d hd => ?_⟩
  · show (hi - lo).toNat ≤ i
    omega
  · have hi' : i < (rangeD lo hi).length := (List.getElem?_eq_some_iff.mp hd).1
    refine ⟨show i < (hi - lo).toNat by omega, fun x H' hy => ?_⟩
    obtain ⟨rfl, rfl⟩ := hy
    have : d = .int (lo + i) := by
      unfold rangeD at hd
      rw [List.getElem?_map, List.getElem?_range (by omega)] at hd
      exact (Option.some.inj hd).symm
    subst this
    exact R.cons_rd fun Z => .int _
/-- a new tuple of two frozen values -/
theorem rep_pair {T : Addr} {x y : V} {a b : D} {rs : List Root} {H : Hp} {Z : Addr → Prop} {fp : List Addr} (z : RepZ rs H Z fp) (hT : H T = none) (hx : Dt.Rd H Z x a) (hy : Dt.Rd H Z y b) : ItR true (.ref T) (.tuple [a, b]) (upd H T (.tup [x, y])) rs :=
  ⟨T, [x, y], [a, b], rfl, rfl, upd_same, rfl, _, _, rdA_roots ((RdA.cons hx (.cons hy .nil)).mono (ext_new hT) fun _ h => h) (z.alloc (o := .tup [x, y]) hT)⟩
theorem walk_enum {a : Addr} {ds : List D} : Walk true (Ite K a) (enD ds) [(.ref a, .list ds, .F)] := by
  intro i H rs R
  obtain ⟨Z, fp, z, w⟩ := R.head
  obtain ⟨a', xs, e, l, r⟩ := w.vw
  cases e
  refine ⟨fun hi => ⟨xs, l.sq, ?_⟩, fun d hd => ?_⟩
  · unfold enD at hi
    rw [List.length_map, List.length_zipIdx] at hi
    rw [r.length]
    exact hi
  unfold enD at hd
  rw [List.getElem?_map] at hd
  obtain ⟨p, hp, rfl⟩ := Option.map_eq_some_iff.mp hd
  rw [List.getElem?_zipIdx] at hp
  obtain ⟨d0, h0, rfl⟩ := Option.map_eq_some_iff.mp hp
  obtain ⟨v, e1, rv⟩ := r.get h0
  refine ⟨⟨xs, v, l.sq, e1⟩, fun x H' hy => ?_⟩
  obtain ⟨T, x1, rfl, hT, rfl, hy⟩ := hy
  have := hy xs l.sq
  rw [e1] at this
  cases this
  have zz : RepZ ((.ref a, .list ds, .F) :: rs) H Z ([] ++ fp) := ⟨.cons ⟨w, rfl⟩ z.own, z.nd, z.off, z.dom⟩
  have e : ((0 + i : Nat) : Int) = (i : Int) := by omega
  show ItR true (V.ref T) (PyData.tuple [.int ((0 + i : Nat) : Int), d0]) _ _
  rw [e]
  exact rep_pair zz hT (.int _) rv
theorem walk_enumT {a : Addr} {ds : List D} : Walk true (IteT K a) (enD ds) [(.ref a, .tuple ds, .F)] := by
  intro i H rs R
  obtain ⟨Z, fp, z, w⟩ := R.head
  obtain ⟨a', xs, e, l, r⟩ := w.vw
  cases e
  refine ⟨fun hi => ⟨xs, (TupAt.sq (K := K) l), ?_⟩, fun d hd => ?_⟩
  · unfold enD at hi
    rw [List.length_map, List.length_zipIdx] at hi
    rw [r.length]
    exact hi
  unfold enD at hd
  rw [List.getElem?_map] at hd
  obtain ⟨p, hp, rfl⟩ := Option.map_eq_some_iff.mp hd
  rw [List.getElem?_zipIdx] at hp
  obtain ⟨d0, h0, rfl⟩ := Option.map_eq_some_iff.mp hp
  obtain ⟨v, e1, rv⟩ := r.get h0
  refine ⟨⟨xs, v, (TupAt.sq (K := K) l), e1⟩, fun x H' hy => ?_⟩
  obtain ⟨T, x1, rfl, hT, rfl, hy⟩ := hy
  have := hy xs (TupAt.sq (K := K) l)
  rw [e1] at this
  cases this
  have zz : RepZ ((.ref a, .tuple ds, .F) :: rs) H Z ([] ++ fp) := ⟨.cons ⟨w, rfl⟩ z.own, z.nd, z.off, z.dom⟩
  have e : ((0 + i : Nat) : Int) = (i : Int) := by omega
  show ItR true (V.ref T) (PyData.tuple [.int ((0 + i : Nat) : Int), d0]) _ _
  rw [e]
  exact rep_pair zz hT (.int _) rv
theorem walk_zip {a b : Addr} {ds es : List D} : Walk true (Itz K a b) ((ds.zip es).map fun p => .tuple [p.1, p.2]) [(.ref a, .list ds, .F), (.ref b, .list es, .F)] := by
  intro i H rs R
  obtain ⟨Z, fp, z⟩ := R
  obtain ⟨f1, ⟨w1, _⟩, _⟩ := z.own.get (List.mem_cons_self ..)
  obtain ⟨f2, ⟨w2, _⟩, _⟩ := z.own.get (List.mem_cons_of_mem _ (List.mem_cons_self ..))
  obtain ⟨a', xs, e, l1, r1⟩ := w1.vw
  cases e
  obtain ⟨b', ys, e, l2, r2⟩ := w2.vw
  cases e
  refine ⟨fun hi => ⟨xs, ys, l1.sq, l2.sq, ?_⟩, fun d hd => ?_⟩
  · rw [List.length_map, List.length_zip] at hi
    rw [r1.length, r2.length]
    omega
  rw [List.getElem?_map] at hd
  obtain ⟨p, hp, rfl⟩ := Option.map_eq_some_iff.mp hd
  obtain ⟨h1, h2⟩ := List.getElem?_zip_eq_some.mp hp
  obtain ⟨v1, e1, rv1⟩ := r1.get h1
  obtain ⟨v2, e2, rv2⟩ := r2.get h2
  refine ⟨⟨xs, ys, v1, v2, l1.sq, l2.sq, e1, e2⟩, fun x H' hy => ?_⟩
  obtain ⟨T, x1, y1, rfl, hT, rfl, hy1, hy2⟩ := hy
  have q1 := hy1 xs l1.sq
  rw [e1] at q1
  cases q1
  have q2 := hy2 ys l2.sq
  rw [e2] at q2
  cases q2
  exact rep_pair z hT rv1 rv2
theorem walk_zipT {a b : Addr} {ds es : List D} : Walk true (RZ.ItzT K a b) ((ds.zip es).map fun p => .tuple [p.1, p.2]) [(.ref a, .tuple ds, .F), (.ref b, .tuple es, .F)] := by
  intro i H rs R
  obtain ⟨Z, fp, z⟩ := R
  obtain ⟨f1, ⟨w1, _⟩, _⟩ := z.own.get (List.mem_cons_self ..)
  obtain ⟨f2, ⟨w2, _⟩, _⟩ := z.own.get (List.mem_cons_of_mem _ (List.mem_cons_self ..))
  obtain ⟨a', xs, e, l1, r1⟩ := w1.vw
  cases e
  obtain ⟨b', ys, e, l2, r2⟩ := w2.vw
  cases e
  have s1 : SqT K H a xs := l1.sq
  have s2 : SqT K H b ys := l2.sq
  refine ⟨fun hi => ⟨xs, ys, s1, s2, ?_⟩, fun d hd => ?_⟩
  · rw [List.length_map, List.length_zip] at hi
    rw [r1.length, r2.length]
    omega
  rw [List.getElem?_map] at hd
  obtain ⟨p, hp, rfl⟩ := Option.map_eq_some_iff.mp hd
  obtain ⟨h1, h2⟩ := List.getElem?_zip_eq_some.mp hp
  obtain ⟨v1, e1, rv1⟩ := r1.get h1
  obtain ⟨v2, e2, rv2⟩ := r2.get h2
  refine ⟨⟨xs, ys, v1, v2, s1, s2, e1, e2⟩, fun x H' hy => ?_⟩
  obtain ⟨T, x1, y1, rfl, hT, rfl, hy1, hy2⟩ := hy
  have q1 := hy1 xs s1
  rw [e1] at q1
  cases q1
  have q2 := hy2 ys s2
  rw [e2] at q2
  cases q2
  exact rep_pair z hT rv1 rv2
end
/-! ### the forms -/
def notSet : Expr → Bool
  | .Set _ _ _ => false
  | _ => true
def itArgs (C : Ck) (ik : Ik) (tg : Expr) (e : Expr) : Option (List Expr) := match ik with
  | .seq => if notSet e then some [e] else none
  | .range1 => one1 (callB C "range" e)
  | .range2 => two2 (callB C "range" e)
  | .enum => (match tg with
    | .Tuple _ _ _ => one1 (callB C "enumerate" e)
    | _ => none)
  | .zip => (match tg with
    | .Tuple _ _ _ => two2 (callB C "zip" e)
    | _ => none)
  | _ => none
section
variable {C : Ck} {U : Ev} {X : Cx} {tg e : Expr} {es : List Expr} {ik : Ik}
def rSeq (K : PySem.W.Frag) : List V → Hp → (It → Hp → Prop) → Prop := fun vs H R => match vs with
  | [x] => (∃ a xs, x = .ref a ∧ SqL K H a xs ∧ R (Itl K a) H) ∨ ∃ a xs, x = .ref a ∧ SqT K H a xs ∧ R (Itt K a) H
  | _ => False
theorem pi_seq {tl : TE} (hl : PE X e tl) : PI X tg e (fun σ H R => tl σ H fun x H1 => rSeq X.K [x] H1 R) := by
  refine ⟨fun pins s σ H R I h => thn (hl.run pins s σ H _ I h) fun v s1 ⟨x, H1, I1, r1, q1⟩ => ?_⟩
  have fresh : ∀ b ∈ [s1.heap.objs.size], FpOk X pins H1 b := fun b hb => by
    cases List.mem_singleton.mp hb
    exact I1.fpOk (Nat.le_refl _) (I1.hok.fresh (Nat.le_refl _))
  rcases q1 with ⟨a, xs, rfl, hq, q⟩ | ⟨a, xs, rfl, hq, q⟩
  · cases r1
    obtain ⟨its, rv, pl, _⟩ := I1.list hq
    exact wpAny_pyIter_list pl.isList ⟨_, _, _, _, H1, rfl, I1.kept (t' := s1.toks) fun b o e => Heap.get?_push_of_some _ e, turn_list a _, ⟨_, Heap.get?_push_size _ rfl, rfl, rfl⟩, fresh, q⟩
  · cases r1
    obtain ⟨its, rv, pl, _⟩ := I1.tuple hq
    exact wpAny_pyIter_tuple (show s1.heap.IsTuple a its.toArray from pl) ⟨_, _, _, _, H1, rfl, I1.kept (t' := s1.toks) fun b o e => Heap.get?_push_of_some _ e, turn_tuple a _, ⟨_, Heap.get?_push_size _ rfl, rfl, rfl⟩, fresh, q⟩
theorem id_seq {K : PySem.W.Frag} : ItD .seq (rSeq K) := by
  intro H Z vs ds items R r e q
  cases r with
  | nil => cases e
  | cons w t =>
    cases t with
    | cons w2 t => cases t <;> exact nomatch (show none = some items from e)
    | nil =>
      rename_i v d
      cases d with
      | list ds =>
        cases e
        obtain ⟨a, xs, rfl, l, _⟩ := w.vw
        exact .inl ⟨a, xs, rfl, l.sq, q _ walk_list⟩
      | tuple ds =>
        cases e
        obtain ⟨a, xs, rfl, l, _⟩ := w.vw
        exact .inr ⟨a, xs, rfl, l.sq, q _ walk_tup⟩
      | _ => cases e
def rR1 : List V → Hp → (It → Hp → Prop) → Prop := fun vs H R => ∃ j : Int, vs = [.int j] ∧ -(2 ^ 62) ≤ j ∧ j < 2 ^ 62 ∧ R (Itr 0 j.toNat) H
def rR2 : List V → Hp → (It → Hp → Prop) → Prop := fun vs H R => ∃ i j : Int, vs = [.int i, .int j] ∧ (-(2 ^ 62) ≤ i ∧ i < 2 ^ 62 ∧ -(2 ^ 62) ≤ j ∧ j < 2 ^ 62) ∧ R (Itr i (j - i).toNat) H
theorem inR_ {i : Int} (h : inR i = true) : -(2 ^ 62) ≤ i ∧ i < 2 ^ 62 := by
  unfold inR at h
  simpa only [Bool.and_eq_true, decide_eq_true_eq] using h
theorem id_r1 : ItD .range1 rR1 := by
  intro H Z vs ds items R r e q
  cases r with
  | nil => cases e
  | cons w t =>
    cases t with
    | cons w2 t => cases t <;> exact nomatch (show none = some items from e)
    | nil =>
      rename_i v d
      cases d with
      | int n =>
        have e : (if inR n then some (rangeD 0 n) else none) = some items := e
        split at e
        · rename_i hn
          cases e
          cases vw_int w.vw
          have := q _ (walk_range (lo := 0) (hi := n))
          rw [Int.sub_zero] at this
          exact ⟨n, rfl, (inR_ hn).1, (inR_ hn).2, this⟩
        · cases e
      | _ => cases e
theorem id_r2 : ItD .range2 rR2 := by
  intro H Z vs ds items R r e q
  cases r with
  | nil => cases e
  | cons w t =>
    cases t with
    | nil => exact nomatch (show none = some items from e)
    | cons w2 t =>
      cases t with
      | cons w3 t => exact nomatch (show none = some items from e)
      | nil =>
        rename_i v d v2 d2
        cases d with
        | int a =>
          cases d2 with
          | int b =>
            have e : (if inR a && inR b then some (rangeD a b) else none) = some items := e
            split at e
            · rename_i hn
              obtain ⟨h1, h2⟩ := Bool.and_eq_true_iff.mp hn
              cases e
              cases vw_int w.vw
              cases vw_int w2.vw
              exact ⟨a, b, rfl, ⟨(inR_ h1).1, (inR_ h1).2, (inR_ h2).1, (inR_ h2).2⟩, q _ walk_range⟩
            · cases e
          | _ => cases e
        | _ => cases e
def rEn (K : PySem.W.Frag) : List V → Hp → (It → Hp → Prop) → Prop := fun vs H R => ∃ a xs, vs = [.ref a] ∧ ((SqL K H a xs ∧ R (Ite K a) H) ∨ (SqT K H a xs ∧ R (IteT K a) H))
theorem id_en {K : PySem.W.Frag} : ItD .enum (rEn K) := by
  intro H Z vs ds items R r e q
  cases r with
  | nil => cases e
  | cons w t =>
    cases t with
    | cons w2 t => cases t <;> exact nomatch (show none = some items from e)
    | nil =>
      rename_i v d
      cases d with
      | list ds =>
        cases e
        obtain ⟨a, xs, rfl, l, _⟩ := w.vw
        exact ⟨a, xs, rfl, .inl ⟨l.sq, q _ walk_enum⟩⟩
      | tuple ds =>
        cases e
        obtain ⟨a, xs, rfl, l, _⟩ := w.vw
        exact ⟨a, xs, rfl, .inr ⟨l.sq, q _ walk_enumT⟩⟩
      | _ => cases e
def rZp (K : PySem.W.Frag) : List V → Hp → (It → Hp → Prop) → Prop := fun vs H R => ∃ a b xs ys, vs = [.ref a, .ref b] ∧ ((SqL K H a xs ∧ SqL K H b ys ∧ R (Itz K a b) H) ∨ (SqT K H a xs ∧ SqT K H b ys ∧ R (RZ.ItzT K a b) H))
theorem id_zp {K : PySem.W.Frag} : ItD .zip (rZp K) := by
  intro H Z vs ds items R r e q
  cases r with
  | nil => cases e
  | cons w t =>
    cases t with
    | nil => exact nomatch (show none = some items from e)
    | cons w2 t =>
      cases t with
      | cons w3 t => exact nomatch (show none = some items from e)
      | nil =>
        rename_i v d v2 d2
        cases d with
        | list ds =>
          cases d2 with
          | list es =>
            cases e
            obtain ⟨a, xs, rfl, l, _⟩ := w.vw
            obtain ⟨b, ys, rfl, l2, _⟩ := w2.vw
            exact ⟨a, b, xs, ys, rfl, .inl ⟨l.sq, l2.sq, q _ walk_zip⟩⟩
          | _ => cases e
        | tuple ds =>
          cases d2 with
          | tuple es =>
            cases e
            obtain ⟨a, xs, rfl, l, _⟩ := w.vw
            obtain ⟨b, ys, rfl, l2, _⟩ := w2.vw
            exact ⟨a, b, xs, ys, rfl, .inr ⟨l.sq, l2.sq, q _ walk_zipT⟩⟩
          | _ => cases e
        | _ => cases e
theorem boot_enum0 : bootBuiltins "enumerate" = some (.type "enumerate") := by decide +kernel
/-- the forms are sound -/
theorem it_ok (O : XOk C U X) (h : itArgs C ik tg e = some es) : ∃ r, ItD ik r ∧ (∀ tes, PEs X es tes → PI X tg e fun σ H R => chain tes σ H fun vs H' => r vs H' R) ∧ ∀ env x, foldedSetIterable e env x = pure x := by
  have cl : ∀ {n : Str} {l : List Expr}, callB C n e = some l → ∀ env x, foldedSetIterable e env x = pure x := fun {n l} h env x => by
    obtain ⟨_, _, _, _, _, rfl, _⟩ := callB_ h
    rfl
  cases ik with
  | seq =>
    have h : (if notSet e then some [e] else none) = some es := h
    split at h
    · rename_i hs
      cases h
      refine ⟨rSeq X.K, id_seq, fun tes T => ?_, fun env x => by cases e <;> first | rfl | cases hs⟩
      obtain ⟨t, rfl, h1, _⟩ := T.one
      exact PI.imp (pi_seq h1) fun σ H R w => w
    · cases h
  | range1 =>
    obtain ⟨h, a, rfl⟩ := one1_ (show one1 (callB C "range" e) = some es from h)
    refine ⟨rR1, id_r1, fun tes T => ?_, cl h⟩
    obtain ⟨x, a', l, p, pos, rfl, e1, hb⟩ := callB_ h
    cases e1
    obtain ⟨rfl, g, m, _⟩ := bltN_ O hb
    obtain ⟨t, rfl, h1, n1⟩ := T.one
    exact PI.imp (pi_range1 g m T.pa (star_no n1)) fun σ H R w => w
  | range2 =>
    obtain ⟨h, a, b, rfl⟩ := two2_ (show two2 (callB C "range" e) = some es from h)
    refine ⟨rR2, id_r2, fun tes T => ?_, cl h⟩
    obtain ⟨x, a', l, p, pos, rfl, e1, hb⟩ := callB_ h
    cases e1
    obtain ⟨rfl, g, m, _⟩ := bltN_ O hb
    obtain ⟨t, u, rfl, h1, h2, n1, n2⟩ := T.two
    have s2 : starEach [b] X.env = [(false, eval b X.env)] := star_no n2
    exact PI.imp (pi_range2 g m T.pa ((star_no n1).trans (by rw [s2])) s2) fun σ H R w => w
  | enum =>
    unfold itArgs at h
    simp only at h
    split at h
    · obtain ⟨h, a, rfl⟩ := one1_ h
      refine ⟨rEn X.K, id_en, fun tes T => ?_, cl h⟩
      obtain ⟨x, a', l, p, pos, rfl, e1, hb⟩ := callB_ h
      cases e1
      obtain ⟨rfl, g, m, _⟩ := bltN_ O hb
      obtain ⟨t, rfl, h1, n1⟩ := T.one
      exact PI.imp (pi_enumA g m T.pa (star_no n1)) fun σ H R w => w
    · cases h
  | zip =>
    unfold itArgs at h
    simp only at h
    split at h
    · obtain ⟨h, a, b, rfl⟩ := two2_ h
      refine ⟨rZp X.K, id_zp, fun tes T => ?_, cl h⟩
      obtain ⟨x, a', l, p, pos, rfl, e1, hb⟩ := callB_ h
      cases e1
      obtain ⟨rfl, g, m, _⟩ := bltN_ O hb
      obtain ⟨t, u, rfl, h1, h2, n1, n2⟩ := T.two
      exact PI.imp (RZ.pi_zipA g m T.pa (star_no n1) (PEs.cons n2 T.mo2 h2 .nil).plain) fun σ H R w => w
    · cases h
  | range3 => exact nomatch (show none = some es from h)
/-- the target of such a walk is a tuple -/
theorem wk_tg {C2 : Ck} {md : List Md} {t : Tg} (h : itArgs C ik tg e = some es) (ht : tgE C2 md t tg = true) (hw : wkI ik = true) : isV t = false := by
  cases ik with
  | enum =>
    unfold itArgs at h
    simp only at h
    split at h
    · cases t <;> first | rfl | cases ht
    · cases h
  | zip =>
    unfold itArgs at h
    simp only at h
    split at h
    · cases t <;> first | rfl | cases ht
    · cases h
  | _ => cases hw
end
end Dt
end
section
set_option Elab.async false
set_option linter.all false
set_option maxRecDepth 100000
set_option maxHeartbeats 4000000
/-! What is owned is changed in place. -/
namespace Dt
open PySem PySem.Spec PyProof.Rows L2
def Kids (H : Hp) (Z : Addr → Prop) (m : Md) (o : HO) (d : D) (fs : List Addr) : Prop :=
  (∃ xs ds, o = .lst xs ∧ d = .list ds ∧ OwnA (Own H Z m) xs ds fs) ∨ (∃ kvs es, o = .dK kvs ∧ d = .dict es ∧ OwnE (Own H Z m) (kvs.map eK) es fs) ∨
  ∃ kvs es, kvs ≠ [] ∧ o = .dT kvs ∧ d = .dict es ∧ OwnE (Own H Z m) (kvs.map eT) es fs
/-- a root that owns its object, taken apart -/
structure Open1 (H : Hp) (Z : Addr → Prop) (a : Addr) (m : Md) (d : D) (rs : List Root) (o : HO) (fs g : List Addr) : Prop where
  at1 : H a = some o
  kids : Kids H Z m o d fs
  rest : OwnR H Z rs g
  nd : (a :: (fs ++ g)).Nodup
  off : ∀ b ∈ a :: (fs ++ g), ¬ Z b
  dom : ∀ b, Z b → H b ≠ none
theorem rep_open {H : Hp} {a : Addr} {m : Md} {d : D} {rs : List Root} (h : Rep ((.ref a, d, .O m) :: rs) H) : ∃ Z o fs g, Open1 H Z a m d rs o fs g := by
  obtain ⟨Z, fp, z, nd, off, dom⟩ := h
  cases z with
  | @cons _ _ _ _ f g w t =>
    obtain ⟨a', fs, e, rfl, k⟩ := w
    cases e
    rcases k with ⟨xs, ds, h1, h2, h3⟩ | ⟨xs, ds, h1, h2, h3⟩ | ⟨xs, ds, n, h1, h2, h3⟩
    · exact ⟨Z, _, fs, g, h1, .inl ⟨xs, ds, rfl, h2, h3⟩, t, nd, off, dom⟩
    · exact ⟨Z, _, fs, g, h1, .inr (.inl ⟨xs, ds, rfl, h2, h3⟩), t, nd, off, dom⟩
    · exact ⟨Z, _, fs, g, h1, .inr (.inr ⟨xs, ds, n, rfl, h2, h3⟩), t, nd, off, dom⟩
theorem Kids.mut {H : Hp} {Z : Addr → Prop} {m : Md} {o : HO} {d : D} {fs : List Addr} (h : Kids H Z m o d fs) : imm o = false := by
  rcases h with ⟨_, _, rfl, _⟩ | ⟨_, _, rfl, _⟩ | ⟨_, _, _, rfl, _⟩ <;> rfl
theorem rep_close {H : Hp} {Z : Addr → Prop} {a : Addr} {m : Md} {d' : D} {rs : List Root} {o o0 : HO} {fs g : List Addr} (h0 : H a = some o0) (im : imm o0 = false) (k : Kids H Z m o d' fs) (t : OwnR H Z rs g) (nd : (a :: (fs ++ g)).Nodup)
    (off : ∀ b ∈ a :: (fs ++ g), ¬ Z b) (dom : ∀ b, Z b → H b ≠ none) : Rep ((.ref a, d', .O m) :: rs) (upd H a o) := by
  have na : ¬ Z a := off a (List.mem_cons_self ..)
  have x : Ext Z H (upd H a o) := fun b u e q => by
    by_cases z : b = a
    · subst z
      rw [h0] at e
      cases e
      rcases q with q | q
      · exact (na q).elim
      · rw [im] at q; cases q
    · rw [upd_ne z]; exact e
  have hne : ∀ b ∈ fs ++ g, b ≠ a := fun b hb e => (List.nodup_cons.mp nd).1 (e ▸ hb)
  have s1 : ∀ b ∈ fs, upd H a o b = H b := fun b hb => upd_ne (hne b (List.mem_append_left _ hb))
  have s2 : ∀ b ∈ g, upd H a o b = H b := fun b hb => upd_ne (hne b (List.mem_append_right _ hb))
  have t' := t.mono x (fun _ q => q) s2
  refine ⟨Z, (a :: fs) ++ g, .cons ⟨a, fs, rfl, rfl, ?_⟩ t', nd, off, fun b hb => ?_⟩
  · rcases k with ⟨xs, ds, rfl, rfl, h3⟩ | ⟨xs, ds, rfl, rfl, h3⟩ | ⟨xs, ds, n, rfl, rfl, h3⟩
    · exact .inl ⟨xs, ds, upd_same, rfl, h3.imp fun v d f p q => p.mono x (fun _ z => z) fun b hb => s1 b (q b hb)⟩
    · exact .inr (.inl ⟨xs, ds, upd_same, rfl, h3.imp fun v d f p q => p.mono x (fun _ z => z) fun b hb => s1 b (q b hb)⟩)
    · exact .inr (.inr ⟨xs, ds, n, upd_same, rfl, h3.imp fun v d f p q => p.mono x (fun _ z => z) fun b hb => s1 b (q b hb)⟩)
  · by_cases z : b = a
    · subst z; rw [upd_same]; exact fun q => nomatch q
    · rw [upd_ne z]; exact dom b hb
theorem OwnA.app {P : V → D → List Addr → Prop} : ∀ {xs ys : List V} {ds es : List D} {f g : List Addr}, OwnA P xs ds f → OwnA P ys es g → OwnA P (xs ++ ys) (ds ++ es) (f ++ g)
  | _, _, _, _, _, _, .nil, k => k
  | _, _, _, _, _, _, .cons h t, k => by
    rw [List.append_assoc]
    exact .cons h (t.app k)
theorem OwnA.length {P : V → D → List Addr → Prop} : ∀ {xs : List V} {ds : List D} {f : List Addr}, OwnA P xs ds f → xs.length = ds.length
  | _, _, _, .nil => rfl
  | _, _, _, .cons _ t => congrArg (· + 1) t.length
theorem OwnE.length {P : V → D → List Addr → Prop} : ∀ {xs : List (D × V)} {ds : List (D × D)} {f : List Addr}, OwnE P xs ds f → xs.length = ds.length
  | _, _, _, .nil => rfl
  | _, _, _, .cons _ t => congrArg (· + 1) t.length
/-- l.append(y) -/
theorem rep_append {H : Hp} {a : Addr} {m : Md} {ds : List D} {rs : List Root} {y : V} {d : D} (h : Rep ((y, d, m) :: (.ref a, .list ds, .O m) :: rs) H) : ∃ xs, H a = some (.lst xs) ∧ xs.length = ds.length ∧ Rep ((.ref a, .list (ds ++ [d]), .O m) :: rs) (upd H a (.lst (xs ++ [y]))) := by
  obtain ⟨Z, fp, z, nd, off, dom⟩ := h
  cases z with
  | @cons _ _ _ _ f0 _ w t =>
    cases t with
    | @cons _ _ _ _ f g w2 t =>
      obtain ⟨a', fs, e, rfl, k⟩ := w2
      cases e
      rcases k with ⟨xs, ds', h1, h2, h3⟩ | ⟨xs, ds', h1, h2, h3⟩ | ⟨xs, ds', n, h1, h2, h3⟩
      · cases h2
        have p : (f0 ++ ((a :: fs) ++ g)).Perm (a :: ((fs ++ (f0 ++ [])) ++ g)) := by
          rw [List.append_nil, List.cons_append]
          refine List.perm_middle.trans (List.Perm.cons _ ?_)
          rw [← List.append_assoc]
          exact (List.perm_append_comm).append_right g
        refine ⟨xs, h1, h3.length, rep_close h1 rfl (.inl ⟨_, _, rfl, rfl, h3.app (.cons w .nil)⟩) t (p.nodup_iff.mp nd) (fun b hb => off b (p.mem_iff.mpr hb)) dom⟩
      · cases h2
      · cases h2
theorem OwnA.setAt {P : V → D → List Addr → Prop} : ∀ {xs : List V} {ds : List D} {f : List Addr} {j : Nat} {dj : D}, OwnA P xs ds f → ds[j]? = some dj → ∃ vj fj fr, xs[j]? = some vj ∧ P vj dj fj ∧ f.Perm (fj ++ fr) ∧
    ∀ v d g, P v d g → ∃ f', OwnA P (xs.set j v) (ds.set j d) f' ∧ f'.Perm (g ++ fr)
  | _, _, _, _, _, .nil, e => by simp at e
  | _, _, _, 0, _, @OwnA.cons _ v vs d ds f g h t, e => by
    simp at e
    subst e
    exact ⟨v, f, g, rfl, h, .refl _, fun v' d' g' p => ⟨g' ++ g, .cons p t, .refl _⟩⟩
  | _, _, _, j + 1, _, @OwnA.cons _ v vs d ds f g h t, e => by
    obtain ⟨vj, fj, fr, h1, h2, h3, h4⟩ := t.setAt (j := j) (by simpa using e)
    refine ⟨vj, fj, f ++ fr, by simpa using h1, h2, ?_, fun v' d' g' p => ?_⟩
    · refine (h3.append_left f).trans ?_
      rw [← List.append_assoc, ← List.append_assoc]
      exact (List.perm_append_comm).append_right fr
    · obtain ⟨f', q1, q2⟩ := h4 v' d' g' p
      refine ⟨f ++ f', .cons h q1, (q2.append_left f).trans ?_⟩
      rw [← List.append_assoc, ← List.append_assoc]
      exact (List.perm_append_comm).append_right fr
/-- l[j] = y -/
theorem rep_setAt {H : Hp} {a : Addr} {m : Md} {ds : List D} {rs : List Root} {y : V} {d dj : D} {j : Nat} (h : Rep ((y, d, m) :: (.ref a, .list ds, .O m) :: rs) H) (hj : ds[j]? = some dj) :
    ∃ xs vj, H a = some (.lst xs) ∧ xs.length = ds.length ∧ xs[j]? = some vj ∧ Rep ((.ref a, .list (ds.set j d), .O m) :: rs) (upd H a (.lst (xs.set j y))) := by
  obtain ⟨Z, fp, z, nd, off, dom⟩ := h
  cases z with
  | @cons _ _ _ _ f0 _ w t =>
    cases t with
    | @cons _ _ _ _ f g w2 t =>
      obtain ⟨a', fs, e, rfl, k⟩ := w2
      cases e
      rcases k with ⟨xs, ds', h1, h2, h3⟩ | ⟨xs, ds', h1, h2, h3⟩ | ⟨xs, ds', n, h1, h2, h3⟩
      · cases h2
        obtain ⟨vj, fj, fr, e1, e2, e3, e4⟩ := h3.setAt hj
        obtain ⟨f', k1, k2⟩ := e4 y d f0 w
        have p : (f0 ++ ((a :: fs) ++ g)).Perm (fj ++ (a :: (f' ++ g))) := by
          rw [List.cons_append]
          have p1 : (f0 ++ a :: (fs ++ g)).Perm (a :: (f0 ++ ((fj ++ fr) ++ g))) := List.perm_middle.trans (List.Perm.cons _ ((e3.append_right g).append_left f0))
          have p2 : (fj ++ a :: (f' ++ g)).Perm (a :: (fj ++ ((f0 ++ fr) ++ g))) := List.perm_middle.trans (List.Perm.cons _ ((k2.append_right g).append_left fj))
          refine p1.trans (List.Perm.trans (List.Perm.cons _ ?_) p2.symm)
          simp only [List.append_assoc]
          exact List.perm_append_comm_assoc ..
        have nd' := p.nodup_iff.mp nd
        refine ⟨xs, vj, h1, h3.length, e1, rep_close h1 rfl (.inl ⟨_, _, rfl, rfl, k1⟩) t (List.nodup_append.mp nd').2.1 (fun b hb => off b (p.mem_iff.mpr (List.mem_append_right _ hb))) dom⟩
      · cases h2
      · cases h2
theorem OwnA.erase {P : V → D → List Addr → Prop} : ∀ {xs : List V} {ds : List D} {f : List Addr} {j : Nat} {dj : D}, OwnA P xs ds f → ds[j]? = some dj → ∃ vj fj fr, xs[j]? = some vj ∧ P vj dj fj ∧ f.Perm (fj ++ fr) ∧ OwnA P (xs.eraseIdx j) (ds.eraseIdx j) fr
  | _, _, _, _, _, .nil, e => by simp at e
  | _, _, _, 0, _, @OwnA.cons _ v vs d ds f g h t, e => by
    simp at e
    subst e
    exact ⟨v, f, g, rfl, h, .refl _, t⟩
  | _, _, _, j + 1, _, @OwnA.cons _ v vs d ds f g h t, e => by
    obtain ⟨vj, fj, fr, h1, h2, h3, h4⟩ := t.erase (j := j) (by simpa using e)
    refine ⟨vj, fj, f ++ fr, by simpa using h1, h2, ?_, .cons h h4⟩
    refine (h3.append_left f).trans ?_
    rw [← List.append_assoc, ← List.append_assoc]
    exact (List.perm_append_comm).append_right fr
/-- l.pop(j): the item comes out -/
theorem rep_pop {H : Hp} {a : Addr} {m : Md} {ds : List D} {rs : List Root} {dj : D} {j : Nat} (h : Rep ((.ref a, .list ds, .O m) :: rs) H) (hj : ds[j]? = some dj) :
    ∃ xs y, H a = some (.lst xs) ∧ xs.length = ds.length ∧ xs[j]? = some y ∧ Rep ((.ref a, .list (ds.eraseIdx j), .O m) :: (y, dj, m) :: rs) (upd H a (.lst (xs.eraseIdx j))) := by
  obtain ⟨Z, fp, z, nd, off, dom⟩ := h
  cases z with
  | @cons _ _ _ _ f g w2 t =>
      obtain ⟨a', fs, e, rfl, k⟩ := w2
      cases e
      rcases k with ⟨xs, ds', h1, h2, h3⟩ | ⟨xs, ds', h1, h2, h3⟩ | ⟨xs, ds', n, h1, h2, h3⟩
      · cases h2
        obtain ⟨vj, fj, fr, e1, e2, e3, e4⟩ := h3.erase hj
        have p : ((a :: fs) ++ g).Perm (a :: (fr ++ (fj ++ g))) := by
          rw [List.cons_append]
          refine List.Perm.cons _ ((e3.append_right g).trans ?_)
          rw [List.append_assoc]
          exact List.perm_append_comm_assoc ..
        refine ⟨xs, vj, h1, h3.length, e1, rep_close h1 rfl (.inl ⟨_, _, rfl, rfl, e4⟩) (.cons e2 t) (p.nodup_iff.mp nd) (fun b hb => off b (p.mem_iff.mpr hb)) dom⟩
      · cases h2
      · cases h2
/-- an owned list of frozen items, as it stands -/
theorem rep_list {H : Hp} {a : Addr} {m : Md} {ds : List D} {rs : List Root} (h : Rep ((.ref a, .list ds, .O m) :: rs) H) : ∃ xs, H a = some (.lst xs) ∧ xs.length = ds.length := by
  obtain ⟨Z, o, fs, g, O⟩ := rep_open h
  rcases O.kids with ⟨xs, ds', rfl, e, k⟩ | ⟨xs, ds', rfl, e, k⟩ | ⟨xs, ds', n, rfl, e, k⟩
  · cases e; exact ⟨xs, O.at1, k.length⟩
  · cases e
  · cases e
/-- l.extend(k), k a new list -/
theorem rep_extend {H : Hp} {a b : Addr} {m : Md} {ds es : List D} {rs : List Root} (h : Rep ((.ref b, .list es, .O m) :: (.ref a, .list ds, .O m) :: rs) H) :
    ∃ xs ys, H a = some (.lst xs) ∧ H b = some (.lst ys) ∧ xs.length = ds.length ∧ ys.length = es.length ∧ Rep ((.ref a, .list (ds ++ es), .O m) :: rs) (upd H a (.lst (xs ++ ys))) := by
  obtain ⟨Z, fp, z, nd, off, dom⟩ := h
  cases z with
  | @cons _ _ _ _ f0 _ w t =>
    cases t with
    | @cons _ _ _ _ f g w2 t =>
      obtain ⟨a', fs, e, rfl, k⟩ := w2
      cases e
      obtain ⟨b', hs, e, rfl, kb⟩ := w
      cases e
      rcases k with ⟨xs, ds', h1, h2, h3⟩ | ⟨xs, ds', h1, h2, h3⟩ | ⟨xs, ds', n, h1, h2, h3⟩
      · cases h2
        rcases kb with ⟨ys, es', g1, g2, g3⟩ | ⟨ys, es', g1, g2, g3⟩ | ⟨ys, es', n, g1, g2, g3⟩
        · cases g2
          have p : ((b :: hs) ++ ((a :: fs) ++ g)).Perm ([b] ++ (a :: ((fs ++ hs) ++ g))) := by
            simp only [List.cons_append, List.nil_append]
            refine List.Perm.cons _ (List.perm_middle.trans (List.Perm.cons _ ?_))
            rw [← List.append_assoc]
            exact (List.perm_append_comm).append_right g
          have nd' := p.nodup_iff.mp nd
          refine ⟨xs, ys, h1, g1, h3.length, g3.length, rep_close h1 rfl (.inl ⟨_, _, rfl, rfl, h3.app g3⟩) t (List.nodup_append.mp nd').2.1 (fun c hc => off c (p.mem_iff.mpr (List.mem_append_right _ hc))) dom⟩
        · cases g2
        · cases g2
      · cases h2
      · cases h2
theorem keyIs_kD (x y : Key) (d : D) : keyIsD (.k y) (kD x, d) = decide (x = y) := by
  unfold keyIsD
  rw [toKK_kD]
  simp
theorem any_key {H : Hp} {Z : Addr → Prop} (y : Key) : ∀ {kvs : List (Key × V)} {es : List (D × D)}, RdE H Z (kvs.map eK) es → es.any (keyIsD (.k y)) = kvs.any fun p => decide (p.1 = y)
  | [], _, r => by cases r; rfl
  | (x, v) :: kvs, _, r => by
    cases r with
    | @cons _ _ _ d ds h t =>
      rw [List.any_cons, List.any_cons, any_key y t]
      show (keyIsD (.k y) (kD x, d) || _) = _
      rw [keyIs_kD]
theorem put_map {H : Hp} {Z : Addr → Prop} {y : Key} {z : V} {d : D} (w : Dt.Rd H Z z d) : ∀ {kvs : List (Key × V)} {es : List (D × D)}, RdE H Z (kvs.map eK) es →
    RdE H Z ((kvs.map fun p => if p.1 = y then (p.1, z) else p).map eK) (es.map fun p => if keyIsD (.k y) p then (p.1, d) else p)
  | [], _, r => by cases r; exact .nil
  | (x, v) :: kvs, _, r => by
    cases r with
    | @cons _ _ _ d0 ds h t =>
      have e : keyIsD (.k y) (kD x, d0) = decide (x = y) := keyIs_kD x y d0
      rw [List.map_cons, List.map_cons, List.map_cons]
      show RdE H Z (eK (if x = y then (x, z) else (x, v)) :: _) ((if keyIsD (.k y) (kD x, d0) = true then (kD x, d) else (kD x, d0)) :: _)
      rw [e]
      by_cases q : x = y
      · rw [if_pos q, if_pos (by simpa using q)]
        exact .cons w (put_map w t)
      · rw [if_neg q, if_neg (by simpa using q)]
        exact .cons h (put_map w t)
theorem RdE.snoc {H : Hp} {Z : Addr → Prop} {k : D} {z : V} {d : D} (w : Dt.Rd H Z z d) : ∀ {vs : List (D × V)} {es : List (D × D)}, RdE H Z vs es → RdE H Z (vs ++ [(k, z)]) (es ++ [(k, d)])
  | _, _, .nil => .cons w .nil
  | _, _, .cons h t => .cons h (t.snoc w)
theorem rdE_put {H : Hp} {Z : Addr → Prop} {y : Key} {z : V} {d : D} {kvs : List (Key × V)} {es : List (D × D)} (r : RdE H Z (kvs.map eK) es) (w : Dt.Rd H Z z d) : RdE H Z ((putK kvs y z).map eK) (dPut es (.k y) (kD y) d) := by
  unfold putK dPut
  rw [any_key y r]
  by_cases q : (kvs.any fun p => decide (p.1 = y)) = true
  · rw [if_pos q, if_pos q]
    exact put_map w r
  · rw [if_neg q, if_neg q, List.map_append]
    exact r.snoc w
/-- d[k] = z, k an int or a text -/
theorem rep_dput {H : Hp} {a : Addr} {es : List (D × D)} {rs : List Root} {z : V} {d : D} {y : Key} (h : Rep ((z, d, .F) :: (.ref a, .dict es, .O .F) :: rs) H) (ok : kindOk es (.k y) = true) :
    ∃ kvs, H a = some (.dK kvs) ∧ kvs.length = es.length ∧ Rep ((.ref a, .dict (dPut es (.k y) (kD y) d), .O .F) :: rs) (upd H a (.dK (putK kvs y z))) := by
  obtain ⟨Z, fp, zz, w⟩ := h.head
  obtain ⟨own, nd, off, dom⟩ := zz
  cases own with
  | @cons _ _ _ _ f g w2 t =>
    obtain ⟨a', fs, e, rfl, k⟩ := w2
    cases e
    rcases k with ⟨xs, ds', h1, h2, h3⟩ | ⟨xs, ds', h1, h2, h3⟩ | ⟨xs, ds', n, h1, h2, h3⟩
    · cases h2
    · cases h2
      have r := ownE_F h3
      have hl := h3.length
      rw [List.length_map] at hl
      have nd' : (a :: ([] ++ g)).Nodup := (List.nodup_cons.mpr ⟨fun m => (List.nodup_cons.mp nd).1 (List.mem_append_right _ m), (List.nodup_append.mp (List.nodup_cons.mp nd).2).2.1⟩)
      refine ⟨xs, h1, hl, rep_close h1 rfl (.inr (.inl ⟨_, _, rfl, rfl, rdE_own (rdE_put r w)⟩)) t nd' (fun b hb => off b ?_) dom⟩
      rcases List.mem_cons.mp hb with e | hb
      · subst e; exact List.mem_cons_self ..
      · exact List.mem_cons_of_mem _ (List.mem_append_right _ hb)
    · cases h2
      exfalso
      cases xs with
      | nil => exact n rfl
      | cons p r1 =>
        obtain ⟨ky, vy⟩ := p
        cases h3
        cases ok
/-- a new list, a new dict -/
theorem rep_newL {H : Hp} {D0 : Addr} {rs : List Root} {m : Md} (h : Rep rs H) (hp : H D0 = none) : Rep ((.ref D0, .list [], .O m) :: rs) (upd H D0 (.lst [])) := by
  obtain ⟨Z, fp, z⟩ := h
  exact z.push hp ⟨D0, [], rfl, rfl, .inl ⟨[], [], upd_same, rfl, .nil⟩⟩
theorem rep_newD {H : Hp} {D0 : Addr} {rs : List Root} {m : Md} (h : Rep rs H) (hp : H D0 = none) : Rep ((.ref D0, .dict [], .O m) :: rs) (upd H D0 (.dK [])) := by
  obtain ⟨Z, fp, z⟩ := h
  exact z.push hp ⟨D0, [], rfl, rfl, .inr (.inl ⟨[], [], upd_same, rfl, .nil⟩)⟩
end Dt
end
section
set_option Elab.async false
set_option linter.all false
set_option maxRecDepth 100000
set_option maxHeartbeats 4000000
/-! Comprehensions: the readings by the meaning. -/
namespace Dt
open PySem PySem.Spec PyProof.Rows L2
theorem perm_mid {α : Type} {a : α} {l r : List α} : (l ++ a :: r).Perm (a :: (l ++ r)) := List.perm_middle
theorem RepS.raw {md : List Md} {σ : L2.St} {en : Sl} {ts : List Root} {H : Hp} (h : RepS md σ en ts H) : ∃ rs, SR md σ en rs ∧ Rep (rs ++ ts) H := h
theorem Out.bind_ok {α β : Type} {x : Out α} {f : α → Sl → Out β} {b : β} {en : Sl} (h : x.bind f = .ok b en) : ∃ a en1, x = .ok a en1 ∧ f a en1 = .ok b en := by
  cases x with
  | ok a en1 => exact ⟨a, en1, rfl, h⟩
  | exc c fs σ => cases h
  | bad => cases h
theorem noX_ok {α : Type} {x : Out α} {a : α} {en : Sl} (h : noX x = .ok a en) : x = .ok a en := by
  cases x with
  | ok a en1 => exact h
  | exc c fs σ => cases h
  | bad => cases h
theorem wipe_idem (σ : L2.St) (vs : List Nat) : L2.wipe (L2.wipe σ vs) vs = L2.wipe σ vs := by
  apply List.ext_getElem?
  intro j
  rw [wipe_get, wipe_get, wipe_length]
  by_cases m : j ∈ vs <;> simp [m]
/-- the loop over what J yields, from H1 on -/
def tBody (J : It) (g : TG) (tt : TT) (te : L2.St → Hp → (Hp → Prop) → Prop) (σ : L2.St) (vs : List Nat) (Fin : Hp → Prop) (H1 : Hp) : Prop := ∃ W : Nat → Nat → Hp → Prop, (∃ m, W 0 m H1) ∧ ∀ i m H, W i m H →
  (J.stop i H ∧ Fin H) ∨ (J.go i H ∧ ∃ Nx : Hp → Prop, (∀ H', Nx H' → ∃ m', m' < m ∧ W (i + 1) m' H') ∧ ∀ x H', J.yld i H x H' → g x (L2.wipe σ vs) H' fun σ2 H2 => L2.wipe σ2 vs = L2.wipe σ vs ∧ tt σ2 H2 fun b H3 =>
    if b = true then te σ2 H3 Nx else Nx H3)
section
variable {md : List Md} {W : WX} {own : List Nat} {tg : Tg} {c : Sl → Out Bool} {α : Type} {e : α → Sl → Out α} {dat : α → D} {Dm : Md} {σ : L2.St} {D0 : Addr} {ts tr : List Root} {te : L2.St → Hp → (Hp → Prop) → Prop} {J : It} {items : List D}
theorem body_core {wk : Bool} (Wk : Walk wk J items tr) (sub : ∀ j ∈ tgs tg, j ∈ own)
    (hte : ∀ (σ2 : L2.St) (H3 : Hp) (Nx : Hp → Prop) (en4 : Sl) (acc1 acc2 : α) (en2 : Sl), RepS md σ2 en4 ((.ref D0, dat acc1, Dm) :: (tr ++ ts)) H3 → e acc1 en4 = .ok acc2 en2 → (∀ H', RepS md σ2 en2 ((.ref D0, dat acc2, Dm) :: (tr ++ ts)) H' → Nx H') → te σ2 H3 Nx)
    {acc0 accF : α} {en0 enF : Sl} (run : loopG (turnG own tg c e) items acc0 en0 = .ok accF enF) {H1 : Hp} (R0 : RepS md σ en0 ((.ref D0, dat acc0, Dm) :: (tr ++ ts)) H1) {Fin : Hp → Prop}
    (fin : ∀ H, RepS md σ (wipeD enF own) ((.ref D0, dat accF, Dm) :: (tr ++ ts)) H → Fin H) : tBody J (gD wk md tg) (tDT md W c) te σ own Fin H1 := by
  refine ⟨fun i m H => m = items.length - i ∧ i ≤ items.length ∧ ∃ acc en, loopG (turnG own tg c e) (items.drop i) acc en = .ok accF enF ∧ RepS md (L2.wipe σ own) (wipeD en own) ((.ref D0, dat acc, Dm) :: (tr ++ ts)) H,
    ⟨_, rfl, Nat.zero_le _, acc0, en0, run, R0.wipes own⟩, ?_⟩
  rintro i m H ⟨rfl, hi, acc, en, run, R⟩
  obtain ⟨rs, S, raw⟩ := R.raw
  have raw' : Rep (tr ++ (rs ++ (.ref D0, dat acc, Dm) :: ts)) H := by
    refine raw.perm ?_
    refine List.Perm.trans ?_ (List.perm_append_comm_assoc ..)
    refine List.Perm.append_left rs ?_
    exact perm_mid.symm
  obtain ⟨w1, w2⟩ := Wk i H _ raw'
  by_cases hl : i < items.length
  · right
    have e1 : items.drop i = items[i] :: items.drop (i + 1) := List.drop_eq_getElem_cons hl
    rw [e1] at run
    obtain ⟨acc2, en2, t1, t2⟩ := Out.bind_ok run
    obtain ⟨go, y⟩ := w2 items[i] (List.getElem?_eq_getElem hl)
    refine ⟨go, fun H' => RepS md (L2.wipe σ own) (wipeD en2 own) ((.ref D0, dat acc2, Dm) :: (tr ++ ts)) H', fun H' nx => ⟨items.length - (i + 1), by omega, rfl, hl, acc2, en2, t2, nx⟩, fun x H' hy => ?_⟩
    have R1 : ItS wk md (L2.wipe σ own) (wipeD en own) x items[i] ((.ref D0, dat acc, Dm) :: (tr ++ ts)) H' := by
      obtain ⟨l, rl, back⟩ := (y x H' hy).split
      refine back _ _ _ _ ⟨rs, S, rl.perm ?_⟩
      refine List.Perm.trans (List.Perm.append_left l ?_) (List.perm_append_comm_assoc ..)
      refine List.Perm.trans (List.perm_append_comm_assoc ..) ?_
      refine List.Perm.append_left rs ?_
      exact perm_mid
    unfold turnG at t1
    split at t1
    · rename_i en3 ea
      obtain ⟨b, en4, c1, c2⟩ := Out.bind_ok t1
      have c1 := noX_ok c1
      refine ⟨wipeD en own, _, items[i], R1, en3, ea, fun σ2 R2 ag => ?_⟩
      have wq : L2.wipe σ2 own = L2.wipe σ own := by rw [(ag.mono sub).wipe, wipe_idem]
      refine ⟨wq, en3, _, R2, ?_⟩
      rw [c1]
      intro H3 R3
      cases b with
      | false =>
        simp only [Bool.false_eq_true, if_false] at c2 ⊢
        cases c2
        have := R3.wipes own
        rw [wq] at this
        exact this
      | true =>
        simp only [if_true] at c2 ⊢
        refine hte σ2 H3 _ en4 acc acc2 en2 R3 (noX_ok c2) fun H4 R4 => ?_
        have := R4.wipes own
        rw [wq] at this
        exact this
    · cases t1
  · left
    have hi2 : items.length ≤ i := Nat.le_of_not_lt hl
    rw [List.drop_eq_nil_of_le hi2] at run
    cases run
    exact ⟨w1 hi2, fin H R.unwipe⟩
/-- an item's reading, appended -/
theorem te_app {m m' : Md} {ev : Sl → Out D} (hm : m' = m ∨ m = .F) {rest : List Root} (σ2 : L2.St) (H3 : Hp) (Nx : Hp → Prop) (en4 : Sl) (acc1 acc2 : List D) (en2 : Sl)
    (R : RepS md σ2 en4 ((.ref D0, .list acc1, .O m) :: rest) H3) (h : app1 ev acc1 en4 = .ok acc2 en2) (q : ∀ H', RepS md σ2 en2 ((.ref D0, .list acc2, .O m) :: rest) H' → Nx H') :
    tD md m' W ev σ2 H3 fun y H4 => ∃ acc, H4 D0 = some (.lst acc) ∧ acc.length < sizeLine ∧ Nx (upd H4 D0 (.lst (acc ++ [y]))) := by
  obtain ⟨d, en5, h1, h2⟩ := Out.bind_ok h
  split at h2
  case isFalse => cases h2
  rename_i hz
  cases h2
  refine ⟨en4, _, R, ?_⟩
  rw [h1]
  intro y H4 R4
  have R5 : RepS md σ2 en2 ((y, d, m) :: (.ref D0, .list acc1, .O m) :: rest) H4 := by
    rcases hm with hm | hm
    · rw [← hm]; rw [hm] at R4 ⊢; exact R4
    · rw [hm]; rw [hm] at R4; exact R4.freeze
  obtain ⟨rs, S, raw⟩ := R5.raw
  have raw2 : Rep ((y, d, m) :: (.ref D0, .list acc1, .O m) :: (rs ++ rest)) H4 := raw.perm (perm_mid.trans (List.Perm.cons _ perm_mid))
  obtain ⟨xs, e1, e2, R6⟩ := rep_append raw2
  exact ⟨xs, e1, by rw [e2]; exact hz, q _ ⟨rs, S, R6.perm perm_mid.symm⟩⟩
/-- a key and a value, put -/
theorem te_put {mk mv : Md} {ek ev : Sl → Out D} {rest : List Root} (σ2 : L2.St) (H3 : Hp) (Nx : Hp → Prop) (en4 : Sl) (acc1 acc2 : List (D × D)) (en2 : Sl) (hk : flatM mk = true)
    (R : RepS md σ2 en4 ((.ref D0, .dict acc1, .O .F) :: rest) H3) (h : put1 ek ev acc1 en4 = .ok acc2 en2) (q : ∀ H', RepS md σ2 en2 ((.ref D0, .dict acc2, .O .F) :: rest) H' → Nx H') :
    tD md mk W ek σ2 H3 fun y H4 => tD md mv W ev σ2 H4 fun z H5 => ∃ kvs k, y = kV k ∧ H5 D0 = some (.dK kvs) ∧ kvs.length < sizeLine ∧ Nx (upd H5 D0 (.dK (putK kvs k z))) := by
  obtain ⟨kd, en5, h1, h2⟩ := Out.bind_ok h
  obtain ⟨d, en6, h3, h4⟩ := Out.bind_ok h2
  split at h4
  case h_2 => cases h4
  rename_i x0 ek'
  split at h4
  case isFalse => cases h4
  rename_i hz
  cases h4
  refine ⟨en4, _, R, ?_⟩
  rw [h1]
  intro y H4 R4
  have hv : y = kV x0 ∧ kd = kD x0 := by
    obtain ⟨rs, S, Z, fp, z⟩ := R4
    obtain ⟨f, w, _⟩ := z.own.get (List.mem_append_right _ (List.mem_cons_self ..))
    obtain ⟨x, h1, h2, h3⟩ := toKK_v (w.vw hk) ek'
    cases h1; exact ⟨h2, h3⟩
  obtain ⟨rfl, rfl⟩ := hv
  refine ⟨en5, _, R4.tail, ?_⟩
  rw [h3]
  intro z H5 R5
  obtain ⟨rs, S, raw⟩ := (R5.freeze).raw
  have raw2 : Rep ((z, d, .F) :: (.ref D0, .dict acc1, .O .F) :: (rs ++ rest)) H5 := raw.perm (perm_mid.trans (List.Perm.cons _ perm_mid))
  obtain ⟨kvs, e1, e2, R6⟩ := rep_dput raw2 hz.2
  exact ⟨kvs, x0, rfl, e1, by rw [e2]; exact hz.1, q _ ⟨rs, S, R6.perm perm_mid.symm⟩⟩
end
/-- what an iterable means, and behind it -/
theorem iD_bind {wk : Bool} {md : List Md} {W : WX} {σ : L2.St} {H : Hp} {β : Type} {m : Sl → Out (List D)} {F : List D → Sl → Out β} {k : β → Sl → Prop} {R : It → Hp → Prop} {en : Sl} {ts : List Root} (r : RepS md σ en ts H) (P : Post md W σ ts ((m en).bind F) k)
    (q : ∀ (J : It) (H' : Hp) (tr : List Root) (items : List D) (en' : Sl), RepS md σ en' (tr ++ ts) H' → Walk wk J items tr → Post md W σ ts (F items en') k → R J H') : iD wk md W m σ H R :=
  ⟨en, ts, r, P.bind.mono fun items en' _ P2 J H' tr R' w => q J H' tr items en' R' w P2⟩
theorem RepS.drop1 {md : List Md} {σ : L2.St} {en : Sl} {r : Root} {tr ts : List Root} {H : Hp} (h : RepS md σ en (r :: (tr ++ ts)) H) : RepS md σ en (r :: ts) H := by
  have p : (r :: (tr ++ ts)).Perm (tr ++ (r :: ts)) := perm_mid.symm
  exact (h.permT p).drop
section
variable {wk wk1 : Bool} {md : List Md} {W : WX} {U : Ev} {own own1 : List Nat} {tg tg1 : Tg} {ik ik1 : Ik} {it it1 c c1 k e : E} {m m' : Md}
abbrev itM (U : Ev) (ik : Ik) (it : E) : Sl → Out (List D) := fun en => (evL U it en).bind fun ds σ => items1 ik ds σ
theorem runG_ok {α : Type} {dat : α → D} {f : D → α → Sl → Out α} {acc : α} {items : List D} {en : Sl} {σ : L2.St} {ts : List Root} {K : D → Sl → Prop} (P : Post md W σ ts (runG own dat f acc items en) K) : ∃ accF enF, loopG f items acc en = .ok accF enF ∧ K (dat accF) (wipeD enF own) := by
  unfold runG at P
  cases h : noX (loopG f items acc en) with
  | ok accF enF =>
    rw [h] at P
    exact ⟨accF, enF, noX_ok h, P⟩
  | exc c fs σ =>
    rw [h] at P
    exact P.elim
  | bad =>
    rw [h] at P
    exact P.elim
theorem lc_imp (hm : m' = m ∨ m = .F) (sub : ∀ j ∈ tgs tg, j ∈ own) (σ : L2.St) (H : Hp) (Q : VK) (h : tD md (.O m) W (evE U (.lc own tg ik it c m e)) σ H Q) :
    tLc (iD wk md W (itM U ik it)) (gD wk md tg) (tDT md W (evT U c)) (tD md m' W (evE U e)) own σ H Q := by
  obtain ⟨en, ts, R, P⟩ := h
  rw [show evE U (.lc own tg ik it c m e) en = (itM U ik it en).bind fun items σ => runG own .list (turnG own tg (evT U c) (app1 (evE U e))) [] items σ by rw [evE]] at P
  refine iD_bind R P fun J H' tr items en' R' w P2 D0 hD => ?_
  obtain ⟨accF, enF, run, K⟩ := runG_ok P2
  have R0 : RepS md σ en' ((.ref D0, .list [], .O m) :: (tr ++ ts)) (upd H' D0 (.lst [])) := by
    obtain ⟨rs, S, raw⟩ := R'.raw
    exact ⟨rs, S, (rep_newL raw hD).perm perm_mid.symm⟩
  exact body_core (dat := .list) (W := W) w sub (te_app hm) run R0 fun H'' R'' => K _ _ R''.drop1
theorem lc2_imp (hm : m' = m ∨ m = .F) (sub : ∀ j ∈ tgs tg, j ∈ own) (sub1 : ∀ j ∈ tgs tg1, j ∈ own1) (σ : L2.St) (H : Hp) (Q : VK) (h : tD md (.O m) W (evE U (.lc2 own tg ik it c own1 tg1 ik1 it1 c1 m e)) σ H Q) :
    tLc2 (iD wk md W (itM U ik it)) (gD wk md tg) (tDT md W (evT U c)) (iD wk1 md W (itM U ik1 it1)) (gD wk1 md tg1) (tDT md W (evT U c1)) (tD md m' W (evE U e)) own own1 σ H Q := by
  obtain ⟨en, ts, R, P⟩ := h
  rw [show evE U (.lc2 own tg ik it c own1 tg1 ik1 it1 c1 m e) en = (itM U ik it en).bind fun items σ => runG own .list (turnG own tg (evT U c) fun acc σ => (itM U ik1 it1 σ).bind fun items1 σ =>
        (loopG (turnG own1 tg1 (evT U c1) (app1 (evE U e))) items1 acc σ).bind fun acc σ => .ok acc (wipeD σ own1)) [] items σ by rw [evE]] at P
  refine iD_bind R P fun J H' tr items en' R' w P2 D0 hD => ?_
  obtain ⟨accF, enF, run, K⟩ := runG_ok P2
  have R0 : RepS md σ en' ((.ref D0, .list [], .O m) :: (tr ++ ts)) (upd H' D0 (.lst [])) := by
    obtain ⟨rs, S, raw⟩ := R'.raw
    exact ⟨rs, S, (rep_newL raw hD).perm perm_mid.symm⟩
  refine body_core (dat := .list) (W := W) (te := fun σ2 H3 Nx => iD wk1 md W (itM U ik1 it1) σ2 H3 fun J1 H4 => tBody J1 (gD wk1 md tg1) (tDT md W (evT U c1)) (fun σ3 H6 Nx1 => tD md m' W (evE U e) σ3 H6 fun y H7 => ∃ acc, H7 D0 = some (.lst acc) ∧ acc.length < sizeLine ∧ Nx1 (upd H7 D0 (.lst (acc ++ [y])))) σ2 own1 Nx H4)
    w sub (fun σ2 H3 Nx en4 acc1 acc2 en2 R3 h q => ?_) run R0 fun H'' R'' => K _ _ R''.drop1
  obtain ⟨its, en5, h1, h2⟩ := Out.bind_ok h
  obtain ⟨acc3, en6, h3, h4⟩ := Out.bind_ok h2
  cases h4
  refine ⟨en4, _, R3, ?_⟩
  rw [show itM U ik1 it1 en4 = .ok its en5 from h1]
  intro J1 H4 tr1 R4 w1
  have R5 : RepS md σ2 en5 ((.ref D0, .list acc1, .O m) :: (tr1 ++ (tr ++ ts))) H4 := R4.permT perm_mid
  exact body_core (dat := .list) (W := W) w1 sub1 (te_app hm) h3 R5 fun H'' R'' => q _ R''.drop1
theorem dc_imp {mk mv : Md} (hk : flatM mk = true) (sub : ∀ j ∈ tgs tg, j ∈ own) (σ : L2.St) (H : Hp) (Q : VK) (h : tD md (.O .F) W (evE U (.dc own tg ik it c k e)) σ H Q) :
    tDc (iD wk md W (itM U ik it)) (gD wk md tg) (tDT md W (evT U c)) (tD md mk W (evE U k)) (tD md mv W (evE U e)) own σ H Q := by
  obtain ⟨en, ts, R, P⟩ := h
  rw [show evE U (.dc own tg ik it c k e) en = (itM U ik it en).bind fun items σ => runG own .dict (turnG own tg (evT U c) (put1 (evE U k) (evE U e))) [] items σ by rw [evE]] at P
  refine iD_bind R P fun J H' tr items en' R' w P2 D0 hD => ?_
  obtain ⟨accF, enF, run, K⟩ := runG_ok P2
  have R0 : RepS md σ en' ((.ref D0, .dict [], .O .F) :: (tr ++ ts)) (upd H' D0 (.dK [])) := by
    obtain ⟨rs, S, raw⟩ := R'.raw
    exact ⟨rs, S, (rep_newD raw hD).perm perm_mid.symm⟩
  exact body_core (dat := .dict) (W := W) w sub (fun σ2 H3 Nx en4 acc1 acc2 en2 R3 h q => te_put σ2 H3 Nx en4 acc1 acc2 en2 hk R3 h q) run R0 fun H'' R'' => K _ _ R''.drop1
end
end Dt
end
section
set_option Elab.async false
set_option linter.all false
set_option maxRecDepth 100000
set_option maxHeartbeats 4000000
/-! Operands that are kept; displays; calls; methods. -/
namespace Dt
open PySem PySem.Spec PyProof.Rows L2
def noPk : E → Bool
  | .cons a r => !isPk a && noPk r
  | _ => true
def mRoots (m : Md) (vs : List V) (ds : List D) : List Root := (vs.zip ds).map fun p => (p.1, p.2, m)
theorem fRoots_m (vs : List V) (ds : List D) : fRoots vs ds = mRoots .F vs ds := rfl
def fits (m : Md) (ms : List Md) : Bool := decide (m = .F) || ms.all fun x => decide (x = m)
theorem RepS.toM {md : List Md} {σ : L2.St} {en : Sl} {H : Hp} {m : Md} : ∀ {as : E} {vs : List V} {ds : List D} {ms : List Md} {tr ts : List Root}, Ops md σ en as vs ds ms tr → noPk as = true → (m = .F ∨ ∀ x ∈ ms, x = m) → RepS md σ en (tr ++ ts) H → RepS md σ en (mRoots m vs ds ++ ts) H := by
  intro as vs ds ms tr ts o
  induction o generalizing ts with
  | nil => intro _ _ h; exact h
  | pk _ _ _ _ _ => intro n; cases n
  | lnt _ _ _ _ _ => intro n; cases n
  | @tmp a r v d m0 vs ds ms tr hn o ih =>
    intro n f h
    have h1 : RepS md σ en ((v, d, m) :: (tr ++ ts)) H := by
      rcases f with f | f
      · subst f; exact h.freeze
      · have := f m0 (List.mem_cons_self ..)
        subst this
        exact h
    have n2 : noPk r = true := (Bool.and_eq_true_iff.mp (show (!isPk a && noPk r) = true from n)).2
    have h2 := ih (ts := (v, d, m) :: ts) n2 (f.imp id fun f x hx => f x (List.mem_cons_of_mem _ hx)) (h1.permT perm_mid.symm)
    exact h2.permT perm_mid
theorem ops_len {md : List Md} {σ : L2.St} {en : Sl} {as : E} {vs : List V} {ds : List D} {ms : List Md} {tr : List Root} (o : Ops md σ en as vs ds ms tr) : vs.length = ds.length := by
  induction o with
  | nil => rfl
  | pk _ _ _ _ ih => exact congrArg (· + 1) ih
  | lnt _ _ _ _ ih => exact congrArg (· + 1) ih
  | tmp _ _ ih => exact congrArg (· + 1) ih
theorem own_split {H : Hp} {Z : Addr → Prop} {m : Md} : ∀ {vs : List V} {ds : List D} {rs : List Root} {fp : List Addr}, vs.length = ds.length → OwnR H Z (mRoots m vs ds ++ rs) fp → ∃ f g, OwnA (Own H Z m) vs ds f ∧ OwnR H Z rs g ∧ fp = f ++ g
  | [], [], rs, fp, _, h => ⟨[], fp, .nil, h, rfl⟩
  | [], _ :: _, _, _, e, _ => by cases e
  | _ :: _, [], _, _, e, _ => by cases e
  | v :: vs, d :: ds, rs, _, e, h => by
    cases h with
    | @cons _ _ _ _ f0 g0 w t =>
      obtain ⟨f, g, h1, h2, h3⟩ := own_split (by simpa using e) t
      exact ⟨f0 ++ f, g, .cons w h1, h2, by rw [h3, List.append_assoc]⟩
theorem rep_mkL {H : Hp} {m : Md} {vs : List V} {ds : List D} {rs : List Root} {p : Addr} (hl : vs.length = ds.length) (h : Rep (mRoots m vs ds ++ rs) H) (hp : H p = none) : Rep ((.ref p, .list ds, .O m) :: rs) (upd H p (.lst vs)) := by
  obtain ⟨Z, fp, z, nd, off, dom⟩ := h
  have at1 := z.at
  obtain ⟨f, g, k, t, rfl⟩ := own_split hl z
  have np : ∀ b ∈ f ++ g, b ≠ p := fun b hb e => by
    obtain ⟨o, h1, _⟩ := at1 b hb
    rw [e, hp] at h1
    cases h1
  have s : ∀ b ∈ f ++ g, upd H p (.lst vs) b = H b := fun b hb => upd_ne (np b hb)
  have x : Ext Z H (upd H p (.lst vs)) := ext_new hp
  refine ⟨Z, (p :: f) ++ g, .cons ⟨p, f, rfl, rfl, .inl ⟨vs, ds, upd_same, rfl, k.imp fun v d f' q w => q.mono x (fun _ z => z) fun b hb => s b (List.mem_append_left _ (w b hb))⟩⟩ (t.mono x (fun _ z => z) fun b hb => s b (List.mem_append_right _ hb)), ?_, fun b hb => ?_, fun b hb => ?_⟩
  · exact List.nodup_cons.mpr ⟨fun q => np p q rfl, nd⟩
  · rcases List.mem_cons.mp hb with e | hb
    · subst e; exact fun q => dom b q hp
    · exact off b hb
  · by_cases e : b = p
    · subst e; rw [upd_same]; exact fun q => nomatch q
    · rw [upd_ne e]; exact dom b hb
theorem own_rdA {H : Hp} {Z : Addr → Prop} {vs : List V} {ds : List D} {f : List Addr} (h : OwnA (Own H Z .F) vs ds f) : RdA H Z vs ds := ownA_F h
theorem rep_rdA {H : Hp} {vs : List V} {ds : List D} {rs : List Root} (hl : vs.length = ds.length) (h : Rep (mRoots .F vs ds ++ rs) H) : ∃ Z fp, RepZ rs H Z fp ∧ RdA H Z vs ds := by
  obtain ⟨Z, fp, z, nd, off, dom⟩ := h
  obtain ⟨f, g, k, t, rfl⟩ := own_split hl z
  exact ⟨Z, g, ⟨t, (List.nodup_append.mp nd).2.1, fun a m => off a (List.mem_append_right _ m), dom⟩, ownA_F k⟩
theorem rep_mkT {H : Hp} {vs : List V} {ds : List D} {rs : List Root} {p : Addr} {o : Obj} (hl : vs.length = ds.length) (h : Rep (mRoots .F vs ds ++ rs) H) (hp : H p = none) (n : o.dict = none) : Rep ((.ref p, .tuple ds, .F) :: rs) (upd H p (.frz o (.tup vs))) := by
  obtain ⟨Z, fp, z, r⟩ := rep_rdA hl h
  exact z.pushT hp n r
theorem RepS.under {md : List Md} {σ : L2.St} {en : Sl} {ts l : List Root} {H H' : Hp} {r : Root} (h : RepS md σ en (l ++ ts) H) (q : ∀ rs, Rep (l ++ rs) H → Rep (r :: rs) H') : RepS md σ en (r :: ts) H' := by
  obtain ⟨rs, S, raw⟩ := h
  exact ⟨rs, S, (q (rs ++ ts) (raw.perm (List.perm_append_comm_assoc ..))).perm perm_mid.symm⟩
section
variable {C : Ck} {U : Ev} {X : Cx} {md : List Md} {W : WX} {as : E} {ms : List Md} {tes : List TE}
/-- (a, b, ..) -/
theorem tup_imp (n : noPk as = true) (imp : ∀ σ H Q, tDL md W (evL U as) as ms σ H Q → chain tes σ H Q) (σ : L2.St) (H : Hp) (Q : VK) (h : tD md .F W (evE U (.tup as)) σ H Q) : tTupF (chain tes) σ H Q := by
  obtain ⟨en, ts, R, P⟩ := h
  rw [show evE U (.tup as) en = (evL U as en).bind fun ds σ => if ds.length ≤ sizeLine then .ok (.tuple ds) σ else .bad by rw [evE]] at P
  refine imp σ H _ ⟨en, ts, R, P.bind.mono fun ds en' _ P2 vs H' tr R' O => ?_⟩
  have hl := ops_len O
  by_cases z : ds.length ≤ sizeLine
  · rw [if_pos z] at P2
    refine ⟨by rw [hl]; exact z, fun p o hp ho => P2 _ _ ?_⟩
    exact (R'.toM O n (.inl rfl)).under fun rs r => rep_mkT hl r hp ho
  · rw [if_neg z] at P2
    exact P2.elim
theorem lst_imp {m : Md} (n : noPk as = true) (f : fits m ms = true) (imp : ∀ σ H Q, tDL md W (evL U as) as ms σ H Q → chain tes σ H Q) (σ : L2.St) (H : Hp) (Q : VK) (h : tD md (.O m) W (evE U (.lst m as)) σ H Q) : tLst (chain tes) σ H Q := by
  obtain ⟨en, ts, R, P⟩ := h
  rw [show evE U (.lst m as) en = (evL U as en).bind fun ds σ => if ds.length ≤ sizeLine then .ok (.list ds) σ else .bad by rw [evE]] at P
  refine imp σ H _ ⟨en, ts, R, P.bind.mono fun ds en' _ P2 vs H' tr R' O => ?_⟩
  have hl := ops_len O
  have f' : m = .F ∨ ∀ x ∈ ms, x = m := by
    unfold fits at f
    simp only [Bool.or_eq_true, decide_eq_true_eq, List.all_eq_true] at f
    exact f
  by_cases z : ds.length ≤ sizeLine
  · rw [if_pos z] at P2
    refine ⟨by rw [hl]; exact z, fun p hp => P2 _ _ ?_⟩
    exact (R'.toM O n f').under fun rs r => rep_mkL hl r hp
  · rw [if_neg z] at P2
    exact P2.elim
/-- an iterable's operands -/
theorem it_imp {ik : Ik} {r : List V → Hp → (It → Hp → Prop) → Prop} (hr : ItD ik r) (n : noPk as = true) (imp : ∀ σ H Q, tDL md W (evL U as) as ms σ H Q → chain tes σ H Q) (σ : L2.St) (H : Hp) (R : It → Hp → Prop) (h : iD (wkI ik) md W (itM U ik as) σ H R) :
    chain tes σ H fun vs H' => r vs H' R := by
  obtain ⟨en, ts, R0, P⟩ := h
  refine imp σ H _ ⟨en, ts, R0, P.bind.mono fun ds en' _ P2 vs H' tr R' O => ?_⟩
  have hl := ops_len O
  have R2 := R'.toM (m := .F) O n (.inl rfl)
  obtain ⟨items, e, q⟩ := P2.ofO
  obtain ⟨rs, S, raw⟩ := R2
  obtain ⟨Z, fp, z, rd⟩ := rep_rdA hl (raw.perm (List.perm_append_comm_assoc ..))
  exact hr H' Z vs ds items R rd e fun J w => q J H' _ ⟨rs, S, raw⟩ w
/-! ### {'a': .., ..} -/
theorem pairs_of_chain {es : List Expr} (T : PEs X es tes) : ∀ {ks : List Str} {σ : L2.St} {H : Hp} {K : List (V × V) → Hp → Prop}, ks.length = tes.length → (chain tes σ H fun vs H' => K ((ks.map V.str).zip vs) H') → tPairs ((ks.map fun k => tC (.str k)).zip tes) σ H K := by
  induction T with
  | nil =>
    intro ks σ H K e h
    cases ks with
    | nil => exact h
    | cons _ _ => cases e
  | cons n m h t ih =>
    intro ks σ H K e w
    cases ks with
    | nil => cases e
    | cons k ks => exact m σ H _ _ (fun v H1 w1 => ih (by simpa using e) w1) w
def strKeys : List Str → List (Option Expr) → Bool
  | [], [] => true
  | k :: ks, some (.Constant (.str x) _ _) :: r => decide (k = x) && strKeys ks r
  | _, _ => false
theorem pps_of {es : List Expr} {pos : Pos} (T : PEs X es tes) : ∀ {ks : List Str} {keys : List (Option Expr)}, strKeys ks keys = true → keys.length = es.length → PPs X pos keys es ((ks.map fun k => tC (.str k)).zip tes) ∧ keys.all (·.isSome) = true ∧ ks.length = tes.length := by
  induction T with
  | nil =>
    intro ks keys h e
    cases keys with
    | cons _ _ => cases e
    | nil =>
      cases ks with
      | nil => exact ⟨pps_nil, rfl, rfl⟩
      | cons _ _ => cases h
  | cons n m h t ih =>
    intro ks keys hk e
    cases keys with
    | nil => cases e
    | cons k0 keys =>
      cases ks with
      | nil => cases hk
      | cons k ks =>
        unfold strKeys at hk
        split at hk
        · rename_i q _
          cases q
        · rename_i e1 e2
          cases e1
          cases e2
          obtain ⟨h1, h2⟩ := Bool.and_eq_true_iff.mp hk
          have h1 := of_decide_eq_true h1
          subst h1
          obtain ⟨q1, q2, q3⟩ := ih h2 (by simpa using e)
          exact ⟨pps_cons pe_str h q1, by simpa using q2, by simpa using q3⟩
        · cases hk
theorem merge_nodup : ∀ (more acc : List (Key × V)), (acc ++ more).map (·.1) |>.Nodup → mergeK acc more = acc ++ more
  | [], acc, _ => by simp [mergeK]
  | p :: r, acc, h => by
    have h' : ((acc ++ [p]) ++ r).map (·.1) |>.Nodup := by simpa using h
    have hp : (acc.any fun kv => decide (kv.1 = p.1)) = false := by
      rw [List.any_eq_false]
      intro x hx e
      have e := of_decide_eq_true e
      rw [List.map_append] at h
      have := (List.nodup_append.mp h).2.2 x.1 (List.mem_map.mpr ⟨x, hx, rfl⟩) p.1 (by simp)
      exact this e
    have e : putK acc p.1 p.2 = acc ++ [p] := by
      unfold putK
      rw [hp]
      simp
    show mergeK (putK acc p.1 p.2) r = acc ++ p :: r
    rw [e, merge_nodup r (acc ++ [p]) h']
    simp
theorem rdE_zip {H : Hp} {Z : Addr → Prop} : ∀ {ks : List Str} {vs : List V} {ds : List D}, RdA H Z vs ds → RdE H Z (((ks.map Sum.inr).zip vs : List (Key × V)).map eK) ((ks.map PyData.str).zip ds)
  | [], _, _, _ => .nil
  | _ :: _, _, _, .nil => .nil
  | k :: ks, _, _, .cons h t => .cons h (rdE_zip t)
theorem rep_fill {H : Hp} {p : Addr} {vs : List V} {ds : List D} {rest : List Root} {ks : List Str} (hl : vs.length = ds.length) (h : Rep ((.ref p, .dict [], .O .F) :: (mRoots .F vs ds ++ rest)) H) :
    H p = some (.dK []) ∧ Rep ((.ref p, .dict ((ks.map PyData.str).zip ds), .O .F) :: rest) (upd H p (.dK ((ks.map Sum.inr).zip vs))) := by
  obtain ⟨Z, o, fs, g, O⟩ := rep_open h
  obtain ⟨f, g', k, t, rfl⟩ := own_split hl O.rest
  have r := ownA_F k
  have e : o = .dK [] := by
    rcases O.kids with ⟨xs, ds', rfl, e, q⟩ | ⟨xs, ds', rfl, e, q⟩ | ⟨xs, ds', n, rfl, e, q⟩
    · cases e
    · cases e
      cases xs with
      | nil => rfl
      | cons x xs => cases q
    · cases e
      cases xs with
      | nil => exact (n rfl).elim
      | cons x xs => cases q
  subst e
  have nd := O.nd
  have off := O.off
  have sub : ∀ b ∈ p :: ([] ++ g'), b ∈ p :: (fs ++ (f ++ g')) := fun b hb => by
    rcases List.mem_cons.mp hb with e | hb
    · subst e; exact List.mem_cons_self ..
    · exact List.mem_cons_of_mem _ (List.mem_append_right _ (List.mem_append_right _ hb))
  have n1 := List.nodup_cons.mp nd
  have nd' : (p :: ([] ++ g')).Nodup := List.nodup_cons.mpr ⟨fun m => n1.1 (List.mem_append_right _ (List.mem_append_right _ m)), (List.nodup_append.mp (List.nodup_append.mp n1.2).2.1).2.1⟩
  exact ⟨O.at1, rep_close O.at1 rfl (.inr (.inl ⟨_, _, rfl, rfl, rdE_own (rdE_zip r)⟩)) t nd' (fun b hb => off b (sub b hb)) O.dom⟩
theorem dsp_imp {ks : List Str} {es : List Expr} (T : PEs X es tes) (n : noPk as = true) (nd : ks.Nodup) (h15 : ks.length ≤ 15) (hl0 : ks.length = tes.length) (imp : ∀ σ H Q, tDL md W (evL U as) as ms σ H Q → chain tes σ H Q) (σ : L2.St) (H : Hp) (Q : VK)
    (h : tD md (.O .F) W (evE U (.dsp ks as)) σ H Q) : tDisp ((ks.map fun k => tC (.str k)).zip tes) σ H Q := by
  obtain ⟨en, ts, R, P⟩ := h
  rw [show evE U (.dsp ks as) en = (evL U as en).bind fun ds σ => if ks.length = ds.length then .ok (.dict ((ks.map .str).zip ds)) σ else .bad by rw [evE]] at P
  intro p hp
  have R0 : RepS md σ en ((.ref p, .dict [], .O .F) :: ts) (upd H p (.dK [])) := by
    obtain ⟨rs, S, raw⟩ := R
    exact ⟨rs, S, (rep_newD raw hp).perm perm_mid.symm⟩
  refine pairs_of_chain T hl0 (imp σ _ _ ⟨en, (.ref p, .dict [], .O .F) :: ts, R0, ?_⟩)
  refine (Post.more [(.ref p, .dict [], .O .F)] P.bind).mono fun ds en' _ P2 vs H' tr R' O => ?_
  have hl := ops_len O
  by_cases z : ks.length = ds.length
  case neg => rw [if_neg z] at P2; exact P2.elim
  rw [if_pos z] at P2
  obtain ⟨rs, S, raw⟩ := R'.toM (m := .F) O n (.inl rfl)
  have raw2 : Rep ((.ref p, .dict [], .O .F) :: (mRoots .F vs ds ++ (rs ++ ts))) H' := by
    refine raw.perm ?_
    refine List.Perm.trans (List.perm_append_comm_assoc ..) ?_
    refine List.Perm.trans (List.Perm.append_left _ perm_mid) ?_
    exact perm_mid
  obtain ⟨h1, h2⟩ := rep_fill (ks := ks) hl raw2
  have hlen : ((ks.map Sum.inr).zip vs : List (Key × V)).length = ks.length := by
    rw [List.length_zip, List.length_map]
    omega
  refine ⟨h1, (ks.map Sum.inr).zip vs, ?_, by rw [hlen]; exact h15, ?_⟩
  · rw [show (fun kv : Key × V => (kV kv.1, kv.2)) = Prod.map kV id from rfl, ← List.zip_map_left, List.map_map]
    rfl
  · have e : mergeK [] ((ks.map Sum.inr).zip vs) = (ks.map Sum.inr).zip vs := by
      rw [merge_nodup]
      · rfl
      · rw [List.nil_append, List.map_fst_zip (by rw [List.length_map]; omega)]
        exact List.pairwise_map.mpr (List.Pairwise.imp (fun h e => h (Sum.inr.inj e)) nd)
    rw [e]
    exact P2 _ _ ⟨rs, S, h2.perm perm_mid.symm⟩
end
end Dt
end
section
set_option Elab.async false
set_option linter.all false
set_option maxRecDepth 100000
set_option maxHeartbeats 4000000
/-! Calls of the program's own defs; methods. -/
namespace Dt
open PySem PySem.Spec PyProof.Rows L2
def argOk (a : E) (o : Option Md) (m : Md) : Bool := match a, o with
  | .lnt _, some m0 => decide (m = m0)
  | .lnt _, none => false
  | .pk _, _ => false
  | _, none => true
  | _, some _ => false
def argsOk : E → List (Option Md) → List Md → Bool
  | .nil, [], [] => true
  | .cons a r, o :: l, m :: ms => argOk a o m && argsOk r l ms
  | _, _, _ => false
def trF (tr : List Root) : List Root := tr.map fun r => (r.1, r.2.1, .F)
theorem RepS.toF {md : List Md} {σ : L2.St} {en : Sl} {H : Hp} : ∀ {tr ts : List Root}, RepS md σ en (tr ++ ts) H → RepS md σ en (trF tr ++ ts) H
  | [], _, h => h
  | (v, d, m) :: tr, ts, h => by
    have h1 : RepS md σ en ((v, d, .F) :: (tr ++ ts)) H := h.freeze
    have h2 := RepS.toF (tr := tr) (ts := (v, d, .F) :: ts) (h1.permT perm_mid.symm)
    exact h2.permT perm_mid
theorem lnts_tmp {a r : E} (h : isPk a = false) : lnts (.cons a r) = lnts r := by
  cases a <;> first | rfl | cases h
section
variable {md : List Md} {σ : L2.St} {en : Sl}
theorem args_A {as : E} {vs : List V} {ds : List D} {ms : List Md} {tr : List Root} (o : Ops md σ en as vs ds ms tr) : ∀ {lm : List (Option Md)}, lnts as = [] → argsOk as lm ms = true → argR lm vs ds = trF tr ∧ ∀ ls, lentR lm vs ls = [] := by
  induction o with
  | nil =>
    intro lm _ h
    cases lm with
    | nil => exact ⟨rfl, fun ls => rfl⟩
    | cons _ _ => cases h
  | pk _ _ _ _ _ =>
    intro lm _ h
    cases lm with
    | nil => cases h
    | cons o l => exact nomatch (Bool.and_eq_true_iff.mp h).1
  | lnt _ _ _ _ _ => intro lm e _; cases e
  | @tmp a r v d m vs ds ms tr hn o ih =>
    intro lm e h
    cases lm with
    | nil => cases h
    | cons o l =>
      obtain ⟨h1, h2⟩ := Bool.and_eq_true_iff.mp h
      rw [lnts_tmp hn] at e
      obtain ⟨q1, q2⟩ := ih e h2
      have : o = none := by
        cases o with
        | none => rfl
        | some m0 => cases a <;> first | cases h1 | cases hn
      subst this
      exact ⟨congrArg ((v, d, Md.F) :: ·) q1, q2⟩
theorem args_B {as : E} {vs : List V} {ds : List D} {ms : List Md} {tr : List Root} (o : Ops md σ en as vs ds ms tr) : ∀ {lm : List (Option Md)} {i : Nat}, lnts as = [i] → argsOk as lm ms = true →
    ∃ v d m, σ[i]? = some (some v) ∧ rdS en i = some d ∧ md[i]? = some m ∧ (argR lm vs ds).Perm ((v, d, m) :: trF tr) ∧ ∀ l, lentR lm vs [l] = [(v, l, m)] := by
  induction o with
  | nil => intro lm i e _; cases e
  | pk _ _ _ _ _ =>
    intro lm i _ h
    cases lm with
    | nil => cases h
    | cons o l => exact nomatch (Bool.and_eq_true_iff.mp h).1
  | @lnt j r v d m vs ds ms tr e1 e2 e3 o ih =>
    intro lm i e h
    cases lm with
    | nil => cases h
    | cons o' l =>
      obtain ⟨h1, h2⟩ := Bool.and_eq_true_iff.mp h
      have e' : j :: lnts r = [i] := e
      obtain ⟨rfl, er⟩ := List.cons.inj e'
      obtain ⟨q1, q2⟩ := args_A o er h2
      cases o' with
      | none => cases h1
      | some m0 =>
        have := of_decide_eq_true (show decide (m = m0) = true from h1)
        subst this
        refine ⟨v, d, m, e1, e2, e3, ?_, fun l' => ?_⟩
        · show ((v, d, m) :: argR l vs ds).Perm _
          rw [q1]
        · show (v, l', m) :: lentR l vs [] = _
          rw [q2]
  | @tmp a r v d m vs ds ms tr hn o ih =>
    intro lm i e h
    cases lm with
    | nil => cases h
    | cons o' l =>
      obtain ⟨h1, h2⟩ := Bool.and_eq_true_iff.mp h
      rw [lnts_tmp hn] at e
      obtain ⟨v', d', m', q1, q2, q3, q4, q5⟩ := ih e h2
      have : o' = none := by
        cases o' with
        | none => rfl
        | some m0 => cases a <;> first | cases h1 | cases hn
      subst this
      exact ⟨v', d', m', q1, q2, q3, (q4.cons (v, d, Md.F)).trans (.swap _ _ _), q5⟩
/-- what a call asks of its def -/
theorem call_sp {F : Fns} {f : Nat} {d : FnC} {W : WX} {as : E} {vs : List V} {ds : List D} {ms : List Md} {tr ts : List Root} {H : Hp} {Q : VK} (o : Ops md σ en as vs ds ms tr) (R : RepS md σ en (tr ++ ts) H) (hl : ds.length = d.np) (ha : argsOk as d.lm ms = true) (h1 : (lnts as).length ≤ 1)
    (P : Post md W σ ts (callO F f (lnts as) ds en) fun r en' => ∀ v H', RepS md σ en' ((v, r, d.rm) :: ts) H' → Q v H') : spF F f d vs H Q := by
  refine ⟨by rw [ops_len o]; exact hl, ds, ?_⟩
  have R2 := R.toF
  unfold callO at P
  cases e : F f ds with
  | exc c fs ls =>
    rw [e] at P
    simp only at P
    split at P
    · exact (show False from P).elim
    · exact (show False from P).elim
  | bad =>
    rw [e] at P
    exact (show False from P).elim
  | ret r ls =>
    rw [e] at P
    simp only at P
    split at P
    case h_2 => exact (show False from P).elim
    rename_i en' eb
    obtain ⟨rs, S, raw⟩ := R2
    match hi : lnts as, h1 with
    | [], _ =>
      rw [hi] at eb
      obtain ⟨q1, q2⟩ := args_A o hi ha
      cases ls with
      | cons _ _ => cases eb
      | nil =>
        cases eb
        refine ⟨rs ++ ts, hl, ?_, fun v H' R' => P v H' ⟨rs, S, ?_⟩⟩
        · rw [q1]
          exact raw.perm (List.perm_append_comm_assoc ..)
        · rw [q2, List.nil_append] at R'
          exact R'.perm perm_mid.symm
    | [i], _ =>
      rw [hi] at eb
      obtain ⟨v, d0, m, e1, e2, e3, e4, e5⟩ := args_B o hi ha
      obtain ⟨v', m', rs', k1, k2, k3, _, k5⟩ := S.take e2
      rw [e1] at k1; cases k1
      rw [e3] at k2; cases k2
      match ls, eb with
      | [], eb => cases eb
      | _ :: _ :: _, eb => cases eb
      | [l], eb =>
        cases eb
        refine ⟨rs' ++ ts, hl, ?_, fun v2 H' R' => ?_⟩
        · have p : (rs ++ (trF tr ++ ts)).Perm (argR d.lm vs ds ++ (rs' ++ ts)) := by
            refine (k3.append_right _).trans ?_
            refine List.Perm.trans ?_ (e4.symm.append_right _)
            refine List.Perm.cons _ ?_
            exact List.perm_append_comm_assoc ..
          exact raw.perm p
        · obtain ⟨rs2, S2, p2⟩ := k5 l
          refine P v2 H' ⟨rs2, S2, ?_⟩
          rw [e5] at R'
          refine R'.perm ?_
          refine List.Perm.trans ?_ perm_mid.symm
          refine List.Perm.cons _ ?_
          exact (p2.symm.append_right ts)
    | _ :: _ :: _, h1 => exact absurd h1 (by simp)
end
section
variable {C : Ck} {U : Ev} {X : Cx} {md : List Md} {W : WX} {as : E} {ms : List Md} {tes : List TE}
theorem run_G {k : Nat} {f : Addr} {fd : FuncData} {ps : List Str} {sp : List V → Hp → VK → Prop} {pins : List (Addr × Obj)} {σ : L2.St} {H : Hp} {s : Shared} {Q : VK} {us : List Value} {vs : List V} (F : FnG X.prog X.w X.K X.mg X.base k f fd ps sp) (hr : Room k X.A) (gd : X.A.guards = some [])
    (hb : Binds X.K fd ps []) (I : Inv X pins σ H s) (r : Vals vs us) (h : sp vs H Q) : wpAny (model X.prog X.w) X.A (call (.ref f) us) (EP X pins σ Q) X.xe s := by
  have hl : (us ++ ([] : List Value)).length = ps.length := by
    rw [List.append_nil, ← r.length]
    exact F.len vs H Q h
  have b := hb s us I.kIn hl
  rw [List.append_nil] at b
  refine wpAny_call (codeAny_mono (F.run X.A X.stack s H ⟨us, []⟩ us vs Q hr gd I.env0 b r h) fun res s' hq => ?_)
  match res, hq with
  | .error e, hq => exact (show False from hq).elim
  | .ok (.ret u), hq => exact I.after hq
  | .ok .next, hq => exact (show False from hq).elim
  | .ok .brk, hq => exact (show False from hq).elim
  | .ok .cont, hq => exact (show False from hq).elim
theorem pe_callG {k : Nat} {f : Addr} {fd : FuncData} {ps : List Str} {sp : List V → Hp → VK → Prop} {x : Str} {p pos : Pos} {es : List Expr} (F : FnG X.prog X.w X.K X.mg X.base k f fd ps sp) (hr : Room k X.A) (gd : X.A.guards = some []) (hg : Gl X x) (hm : X.mg x = some (.ref f))
    (hk : PySem.W.keepIn X.K (.ref f) = true) (hb : Binds X.K fd ps []) (hdb : (x == ("__debug__" : Str)) = false) (T : PEs X es tes) : PE X (.Call (.Name x p) es [] pos) fun σ H Q => chain tes σ H fun vs H' => sp vs H' Q := by
  refine ⟨fun pins s σ H Q I h => wpAny_Call_Name_kw (ld_glob I hg hm ?_ hdb)⟩
  have pa := T.pa
  cases T with
  | nil => exact PySem.W.callWith_K0 I.kIn hk (run_G (us := []) F hr gd hb I .nil h)
  | cons n m h1 t1 => exact PySem.W.callWith_K (h₀ := X.base) I.ok.mod.kin hk (thn (pa.run pos pins s σ H _ I h) fun us s1 ⟨vs, H1, I1, r, q⟩ => ⟨I1.kIn, run_G F hr gd hb I1 r q⟩) (star_no n) t1.plain
theorem call_pe (O : XOk C U X) {f : Nat} {d : FnC} {x : Str} {p pos : Pos} {es : List Expr} (hf : C.fns[f]? = some d) (hx : x = d.name) (hg : glo C x = true) (hp : plainN x = true) (hl : es.length = d.np) (hel : ∀ σ en vs ds tr, Ops md σ en as vs ds ms tr → ds.length = es.length)
    (ha : argsOk as d.lm ms = true) (h1 : (lnts as).length ≤ 1) (T : PEs X es tes) (imp : ∀ σ H Q, tDL md W (evL U as) as ms σ H Q → chain tes σ H Q) : PE X (.Call (.Name x p) es [] pos) (tD md d.rm W (evE U (.call f as))) := by
  subst hx
  obtain ⟨a, k, fd, ps, m1, k1, b1, l1, F, hr⟩ := O.fns f d hf
  have hdb : (d.name == ("__debug__" : Str)) = false := by
    unfold plainN at hp
    simp only [Bool.and_eq_true, Bool.not_eq_true'] at hp
    exact hp.1.1
  refine PE.imp (pe_callG F hr O.gd (O.glo hg) m1 k1 b1 hdb T) fun σ H Q h => ?_
  obtain ⟨en, ts, R, P⟩ := h
  rw [show evE U (.call f as) en = (evL U as en).bind fun ds σ => callO U.F f (lnts as) ds σ by rw [evE]] at P
  exact imp σ H _ ⟨en, ts, R, P.bind.mono fun ds en' _ P2 vs H' tr R' o => call_sp (W := W) o R' ((hel σ en' vs ds tr o).trans hl) ha h1 P2⟩
/-! ### methods of a list in a slot -/
theorem slot_list {σ : L2.St} {en : Sl} {ts : List Root} {H : Hp} {i : Nat} {m : Md} {ds : List D} (R : RepS md σ en ts H) (e : rdS en i = some (.list ds)) (hm : md[i]? = some (.O m)) : ∃ a rs', σ[i]? = some (some (.ref a)) ∧ Rep ((.ref a, .list ds, .O m) :: (rs' ++ ts)) H ∧
    ∀ d' ts' H', Rep ((.ref a, d', .O m) :: (rs' ++ ts')) H' → RepS md σ (en.set i (some d')) ts' H' := by
  obtain ⟨v, m', rs', h1, h2, h3, h4⟩ := R.open e
  rw [hm] at h2
  cases h2
  obtain ⟨Z, fp, z⟩ := id h3
  cases id z.own with
  | cons w t =>
    obtain ⟨a, fs, rfl, _⟩ := w
    exact ⟨a, rs', h1, h3, h4⟩
theorem isLs_ {en : Sl} {i : Nat} (h : isLs en i = true) : ∃ ds, rdS en i = some (.list ds) := by
  unfold isLs at h
  split at h
  · exact ⟨_, by assumption⟩
  · cases h
theorem mut_imp {mr : Md} {o : Mop} {i : Nat} {m : Md} {r : V → List V → Hp → VK → Prop} (hm : md[i]? = some (.O m)) (imp : ∀ σ H Q, tDL md W (evL U as) as ms σ H Q → chain tes σ H Q)
    (step : ∀ (σ : L2.St) (en : Sl) (ts tr : List Root) (H : Hp) (vs : List V) (ds : List D) (v : V) (r0 x r1 : D) (Q : VK), σ[i]? = some (some v) → RepS md σ en (tr ++ ts) H → Ops md σ en as vs ds ms tr → rdS en i = some r0 → mopF o r0 ds = some (x, r1) →
      (∀ v H', RepS md σ (en.set i (some r1)) ((v, x, mr) :: ts) H' → Q v H') → r v vs H Q) (σ : L2.St) (H : Hp) (Q : VK) (h : tD md mr W (evE U (.mut o i as)) σ H Q) : tBM X.K "list" r (tVar i) (chain tes) σ H Q := by
  obtain ⟨en, ts, R, P⟩ := h
  rw [show evE U (.mut o i as) en = if isLs en i then (evL U as en).bind fun ds σ => mutO o i ds σ else .bad by rw [evE]] at P
  by_cases hi : isLs en i = true
  case neg => rw [if_neg hi] at P; exact P.elim
  rw [if_pos hi] at P
  obtain ⟨ds0, e0⟩ := isLs_ hi
  obtain ⟨a, rs', s1, raw, _⟩ := slot_list R e0 hm
  obtain ⟨xs, hx, _⟩ := rep_list raw
  refine ⟨.ref a, s1, .inl ⟨rfl, xs, .inl (.inl hx)⟩, imp σ H _ ⟨en, ts, R, P.bind.mono fun ds en' _ P2 vs H' tr R' o => ?_⟩⟩
  unfold mutO at P2
  split at P2
  case h_2 => exact (show False from P2).elim
  rename_i r0 e1
  split at P2
  case h_2 => exact (show False from P2).elim
  rename_i x r1 e2
  exact step σ en' ts tr H' vs ds _ r0 x r1 Q s1 R' o e1 e2 P2
theorem fit_one {md : List Md} {σ : L2.St} {en : Sl} {H : Hp} {m : Md} {a : E} {vs : List V} {d : D} {tr ts : List Root} (o : Ops md σ en (.cons a .nil) vs [d] ms tr) (n : noPk (.cons a .nil) = true) (f : fits m ms = true) (R : RepS md σ en (tr ++ ts) H) : ∃ y, vs = [y] ∧ RepS md σ en ((y, d, m) :: ts) H := by
  have f' : m = .F ∨ ∀ x ∈ ms, x = m := by
    unfold fits at f
    simp only [Bool.or_eq_true, decide_eq_true_eq, List.all_eq_true] at f
    exact f
  have R2 := R.toM o n f'
  have hl := ops_len o
  match vs, hl with
  | [y], _ => exact ⟨y, rfl, R2⟩
theorem mop_append {r0 x r1 : D} {ds : List D} (h : mopF .append r0 ds = some (x, r1)) : ∃ xs d, r0 = .list xs ∧ ds = [d] ∧ x = .none ∧ r1 = .list (xs ++ [d]) ∧ xs.length < sizeLine := by
  unfold mopF at h
  split at h <;> first | (split at h; (cases h; exact ⟨_, _, rfl, rfl, rfl, rfl, by assumption⟩); cases h) | contradiction | skip
theorem mop_extend {r0 x r1 : D} {ds : List D} (h : mopF .extend r0 ds = some (x, r1)) : ∃ xs ys, r0 = .list xs ∧ ds = [.list ys] ∧ x = .none ∧ r1 = .list (xs ++ ys) ∧ xs.length + ys.length ≤ sizeLine := by
  unfold mopF at h
  split at h <;> first | (split at h; (cases h; exact ⟨_, _, rfl, rfl, rfl, rfl, by assumption⟩); cases h) | contradiction | skip
theorem append_step {i : Nat} {m : Md} {a : E} (hm : md[i]? = some (.O m)) (n : noPk (.cons a .nil) = true) (f : fits m ms = true) (σ : L2.St) (en : Sl) (ts tr : List Root) (H : Hp) (vs : List V) (ds : List D) (v : V) (r0 x r1 : D) (Q : VK) (s1 : σ[i]? = some (some v)) (R : RepS md σ en (tr ++ ts) H)
    (o : Ops md σ en (.cons a .nil) vs ds ms tr) (e : rdS en i = some r0) (h : mopF .append r0 ds = some (x, r1)) (q : ∀ v H', RepS md σ (en.set i (some r1)) ((v, x, .F) :: ts) H' → Q v H') : rAppend v vs H Q := by
  obtain ⟨xs, d, rfl, rfl, rfl, rfl, hz⟩ := mop_append h
  obtain ⟨y, rfl, R2⟩ := fit_one o n f R
  obtain ⟨a, rs', s2, raw, close⟩ := slot_list R2 e hm
  rw [s1] at s2
  cases s2
  have raw2 : Rep ((y, d, m) :: (.ref a, .list xs, .O m) :: (rs' ++ ts)) H := raw.perm ((List.Perm.cons _ perm_mid).trans (.swap _ _ _))
  obtain ⟨us, h1, h2, h3⟩ := rep_append raw2
  exact ⟨a, us, y, rfl, rfl, h1, by rw [h2]; exact hz, q _ _ ((close _ _ _ h3).flat fun Z => .non)⟩
theorem extend_step {i : Nat} {m : Md} {a : E} (hm : md[i]? = some (.O m)) (n : noPk (.cons a .nil) = true) (f : fits (.O m) ms = true) (σ : L2.St) (en : Sl) (ts tr : List Root) (H : Hp) (vs : List V) (ds : List D) (v : V) (r0 x r1 : D) (Q : VK) (s1 : σ[i]? = some (some v)) (R : RepS md σ en (tr ++ ts) H)
    (o : Ops md σ en (.cons a .nil) vs ds ms tr) (e : rdS en i = some r0) (h : mopF .extend r0 ds = some (x, r1)) (q : ∀ v H', RepS md σ (en.set i (some r1)) ((v, x, .F) :: ts) H' → Q v H') : rExtend v vs H Q := by
  obtain ⟨xs, ys, rfl, rfl, rfl, rfl, hz⟩ := mop_extend h
  obtain ⟨y, rfl, R2⟩ := fit_one o n f R
  obtain ⟨a, rs', s2, raw, close⟩ := slot_list R2 e hm
  rw [s1] at s2
  cases s2
  have raw2 : Rep ((y, .list ys, .O m) :: (.ref a, .list xs, .O m) :: (rs' ++ ts)) H := raw.perm ((List.Perm.cons _ perm_mid).trans (.swap _ _ _))
  obtain ⟨b, rfl⟩ : ∃ b, y = .ref b := by
    obtain ⟨Z, fp, z⟩ := id raw2
    cases z.own with
    | cons w t =>
      obtain ⟨b, fs, rfl, _⟩ := w
      exact ⟨b, rfl⟩
  obtain ⟨us, ws, h1, h2, h3, h4, h5⟩ := rep_extend raw2
  exact ⟨a, b, us, ws, rfl, rfl, h1, h2, by rw [h3, h4]; exact hz, q _ _ ((close _ _ _ h5).flat fun Z => .non)⟩
theorem mop_popAt {r0 x r1 : D} {ds : List D} (h : mopF .popAt r0 ds = some (x, r1)) : ∃ xs k, ∃ z : Int, r0 = .list xs ∧ ds = [.int z] ∧ -(2 ^ 63) ≤ z ∧ z < 2 ^ 63 ∧ ixD xs.length z = some k ∧ xs[k]? = some x ∧ r1 = .list (xs.eraseIdx k) := by
  unfold mopF at h
  split at h <;> first | contradiction | skip
  rename_i xs z _ _ _
  split at h
  case isFalse => cases h
  rename_i hz
  obtain ⟨k, h1, h2⟩ := Option.bind_eq_some_iff.mp h
  obtain ⟨y, h3, h4⟩ := Option.map_eq_some_iff.mp h2
  cases h4
  exact ⟨_, k, _, rfl, rfl, hz.1, hz.2, h1, h3, rfl⟩
theorem mop_pop {r0 x r1 : D} {ds : List D} (h : mopF .pop r0 ds = some (x, r1)) : ∃ xs, r0 = .list xs ∧ ds = [] ∧ xs[xs.length - 1]? = some x ∧ r1 = .list xs.dropLast := by
  unfold mopF at h
  split at h <;> first | contradiction | skip
  obtain ⟨y, h3, h4⟩ := Option.map_eq_some_iff.mp h
  cases h4
  exact ⟨_, rfl, rfl, h3, rfl⟩
theorem ixD_seq {n : Nat} {i : Int} {k : Nat} (h : ixD n i = some k) : seqIndex? i n = some k := by
  unfold ixD at h
  unfold seqIndex?
  split at h
  · rename_i h0
    split at h
    · rename_i h1
      cases h
      have e : (if i < 0 then i + (n : Int) else i) = i := if_neg (by omega)
      simp only [e]
      rw [if_pos (by simp [h0, h1])]
    · cases h
  · rename_i h0
    split at h
    · rename_i h1
      cases h
      have e : (if i < 0 then i + (n : Int) else i) = i + n := if_pos (by omega)
      simp only [e]
      rw [if_pos (by simp only [Bool.and_eq_true, decide_eq_true_eq]; omega)]
    · cases h
theorem popAt_step {i : Nat} {m : Md} {a : E} (hm : md[i]? = some (.O m)) (n : noPk (.cons a .nil) = true) (f : fits .F ms = true) (σ : L2.St) (en : Sl) (ts tr : List Root) (H : Hp) (vs : List V) (ds : List D) (v : V) (r0 x r1 : D) (Q : VK) (s1 : σ[i]? = some (some v)) (R : RepS md σ en (tr ++ ts) H)
    (o : Ops md σ en (.cons a .nil) vs ds ms tr) (e : rdS en i = some r0) (h : mopF .popAt r0 ds = some (x, r1)) (q : ∀ v H', RepS md σ (en.set i (some r1)) ((v, x, m) :: ts) H' → Q v H') : rPopAt v vs H Q := by
  obtain ⟨xs, k, z, rfl, rfl, z1, z2, hk, hx, rfl⟩ := mop_popAt h
  obtain ⟨y, rfl, R2⟩ := fit_one o n f R
  have hy : y = .int z := by
    obtain ⟨rs, S, Z, fp, zz⟩ := id R2
    obtain ⟨f, w, _⟩ := zz.own.get (List.mem_append_right _ (List.mem_cons_self ..))
    exact vw_int (w.vw rfl)
  subst hy
  obtain ⟨a, rs', s2, raw, close⟩ := slot_list R2.tail e hm
  rw [s1] at s2
  cases s2
  obtain ⟨us, y, h1, h2, h3, h4⟩ := rep_pop raw hx
  refine ⟨a, us, z, k, y, rfl, rfl, h1, z1, z2, by rw [h2]; exact ixD_seq hk, h3, q _ _ (close _ _ _ (h4.perm (List.Perm.cons _ perm_mid.symm)))⟩
theorem dropL {α : Type} (l : List α) : l.dropLast = l.eraseIdx (l.length - 1) := by
  rw [List.dropLast_eq_take, List.eraseIdx_eq_take_drop_succ]
  by_cases e : l = []
  · subst e; rfl
  · have : l.length ≠ 0 := fun z => e (List.eq_nil_of_length_eq_zero z)
    rw [List.drop_of_length_le (by omega), List.append_nil]
theorem pop_step {i : Nat} {m : Md} (hm : md[i]? = some (.O m)) (σ : L2.St) (en : Sl) (ts tr : List Root) (H : Hp) (vs : List V) (ds : List D) (v : V) (r0 x r1 : D) (Q : VK) (s1 : σ[i]? = some (some v)) (R : RepS md σ en (tr ++ ts) H)
    (o : Ops md σ en .nil vs ds ms tr) (e : rdS en i = some r0) (h : mopF .pop r0 ds = some (x, r1)) (q : ∀ v H', RepS md σ (en.set i (some r1)) ((v, x, m) :: ts) H' → Q v H') : rPop v vs H Q := by
  obtain ⟨xs, rfl, rfl, hx, rfl⟩ := mop_pop h
  cases o
  obtain ⟨a, rs', s2, raw, close⟩ := slot_list (ts := ts) R e hm
  rw [s1] at s2
  cases s2
  obtain ⟨us, y, h1, h2, h3, h4⟩ := rep_pop raw hx
  rw [← dropL] at h4
  rw [← h2, ← dropL] at h4
  refine ⟨a, us, y, rfl, rfl, h1, by rw [h2]; exact h3, q _ _ (close _ _ _ (h4.perm (List.Perm.cons _ perm_mid.symm)))⟩
def nameAttr0 (nm : Str) (e : Expr) : Option Str := match e with
  | .Call (.Attribute (.Name x _) n apos) [] [] cpos => if n = nm && apos.endLine == cpos.line then some x else none
  | _ => none
theorem nameAttr0_ {nm x : Str} {e : Expr} (h : nameAttr0 nm e = some x) : ∃ p apos cpos, e = .Call (.Attribute (.Name x p) nm apos) [] [] cpos ∧ (apos.endLine == cpos.line) = true := by
  unfold nameAttr0 at h
  split at h
  · split at h
    · rename_i h2
      simp only [Bool.and_eq_true, decide_eq_true_eq] at h2
      obtain ⟨rfl, h3⟩ := h2
      cases h
      exact ⟨_, _, _, rfl, h3⟩
    · cases h
  · cases h
def nameAttr (nm : Str) (e : Expr) : Option (Str × Expr) := match e with
  | .Call (.Attribute (.Name x _) n apos) [a] [] cpos => if n = nm && apos.endLine == cpos.line then some (x, a) else none
  | _ => none
theorem nameAttr_ {nm x : Str} {e a : Expr} (h : nameAttr nm e = some (x, a)) : ∃ p apos cpos, e = .Call (.Attribute (.Name x p) nm apos) [a] [] cpos ∧ (apos.endLine == cpos.line) = true := by
  unfold nameAttr at h
  split at h
  · split at h
    · rename_i h2
      simp only [Bool.and_eq_true, decide_eq_true_eq] at h2
      obtain ⟨rfl, h3⟩ := h2
      cases h
      exact ⟨_, _, _, rfl, h3⟩
    · cases h
  · cases h
theorem few1 {a : Expr} {cpos : Pos} (h : nostar a = true) : ((backTo cpos (starEach [a] X.env)).all (fun x => !x.1) && (backToKw cpos (keywordEach [] X.env)).all (fun x => x.1.isSome)
      && decide (([a] : List Expr).length + ([] : List Keyword).length + (if ([] : List Keyword).isEmpty then 0 else 1) < 30)) = true := by
  rw [star_no h]
  rfl
theorem meth_pe {nm x : Str} {id : String} {p apos cpos : Pos} {a : Expr} {i : Nat} {r : V → List V → Hp → VK → Prop} (pa : PlainAttrs "list") (slot : Slot "list" nm id) (hty : typeOf (.builtin id) = pure (.type "method_descriptor")) (hmt : MtM X id r) (O : XOk C U X) (hn : okN C i x = true)
    (hl : (apos.endLine == cpos.line) = true) (T : PEs X [a] tes) : PE X (.Call (.Attribute (.Name x p) nm apos) [a] [] cpos) (tBM X.K "list" r (tVar i) (chain tes)) := by
  obtain ⟨h1, h2, h3, h4⟩ := okN_ O hn
  have pA := T.pa
  obtain ⟨t, rfl, ht, n⟩ := T.one
  exact pe_bm pa slot hty hmt (pe_var h1 h2 h3 h4) pA rfl (few1 n) hl (star_no n) rfl
end
end Dt
end
section
set_option Elab.async false
set_option linter.all false
set_option maxRecDepth 100000
set_option maxHeartbeats 4000000
/-! The checker of expressions. -/
namespace Dt
open PySem PySem.Spec PyProof.Rows L2
def blkCk (C : Ck) (scope : Scope) : Ck := { C with sc := relS scope C.sc, own := scope }
def ownP (C : Ck) (own : List Nat) : List (Str × Nat) := own.map fun i => ((C.N[i]?).getD ⟨#[]⟩, i)
def tailB (op : BoolOp) (y : Expr) (r : List Expr) (p : Pos) : Expr := match r with
  | [] => y
  | z :: zs => .BoolOp op (y :: z :: zs) p
def plainT : Expr → Bool
  | .UnaryOp .Not _ _ => false
  | .BoolOp _ _ _ => false
  | .IfExp _ _ _ _ => false
  | .Compare _ _ _ _ => false
  | _ => true
def isBO : Expr → Bool
  | .BoolOp _ _ _ => true
  | _ => false
def subB (xs ys : List Nat) : Bool := xs.all fun x => decide (x ∈ ys)
def isYes : E → Bool
  | .bl true => true
  | _ => false
def pkI : E → Option Nat
  | .pk i => some i
  | .lnt i => some i
  | _ => none
def chkPk (C : Ck) (md : List Md) (i : Nat) (x : Expr) : Option Md := match x with
  | .Name y _ => if okN C i y then md[i]? else none
  | _ => none
def andOf (e : Expr) (op : BoolOp) : Option (Expr × Expr) := match e with
  | .BoolOp o (x :: y :: r) p => if o = op then some (x, tailB o y r p) else none
  | _ => none
def oM : Option Md → Option Md
  | some (.O m) => some m
  | _ => none
def isOp : E → Option Op
  | .op o _ _ => some o
  | _ => none
abbrev KE := Ck → Expr → Option Md
abbrev KT := Ck → Expr → Bool
abbrev KL := Ck → List Expr → Option (List Md)
def kVar (C : Ck) (md : List Md) (i : Nat) (e : Expr) : Option Md := match e with
  | .Name x _ => if okN C i x && decide (md[i]? = some .F) then some .F else none
  | _ => none
def kNon (e : Expr) : Option Md := match e with
  | .Constant .none _ _ => some .F
  | _ => none
def kBl (b : Bool) (e : Expr) : Option Md := match e with
  | .Constant (.bool b') _ _ => if b' = b then some .F else none
  | _ => none
def kInt (i : Int) (e : Expr) : Option Md := match e with
  | .Constant (.int j) _ _ => if j = i then some .F else none
  | _ => none
def kStr (s : Str) (e : Expr) : Option Md := match e with
  | .Constant (.str s') _ _ => if s' = s then some .F else none
  | _ => none
def kOp (C : Ck) (o : Op) (fr : Bool) (e : Expr) (l : KL) : Option Md := match opArgs C o e with
  | some es => (match l C es with
    | some ms => if ms.all flatM then some (rmO fr) else none
    | none => none)
  | none => none
def kAnd (C : Ck) (op : BoolOp) (e : Expr) (a b : KE) : Option Md := match andOf e op with
  | some (x, y) => if a C x = some .F ∧ b C y = some .F then some .F else none
  | none => none
def kNot (C : Ck) (e : Expr) (a : KE) : Option Md := match e with
  | .UnaryOp .Not x _ => if a C x = some .F then some .F else none
  | _ => none
def kIte (C : Ck) (e : Expr) (t : KT) (a b : KE) : Option Md := match e with
  | .IfExp c x y _ => if t C c then (match a C x, b C y with
    | some m1, some m2 => if m1 = m2 then some m1 else none
    | _, _ => none) else none
  | _ => none
def kTup (C : Ck) (n : Bool) (e : Expr) (l : KL) : Option Md := match e with
  | .Tuple es _ _ => (match l C es with
    | some _ => if n then some .F else none
    | none => none)
  | _ => none
def kLst (C : Ck) (n : Bool) (m : Md) (e : Expr) (l : KL) : Option Md := match e with
  | .List es _ => (match l C es with
    | some ms => if n && fits m ms then some (.O m) else none
    | none => none)
  | _ => none
def kDsp (C : Ck) (n : Bool) (ks : List Str) (e : Expr) (l : KL) : Option Md := match e with
  | .Dict keys vals _ => if strKeys ks keys && decide (keys.length = vals.length) && decide (ks.Nodup) && decide (ks.length ≤ 15) && !ks.isEmpty && n then (match l C vals with
    | some _ => some (.O .F)
    | none => none) else none
  | _ => none
def kCall (C : Ck) (f : Nat) (as : E) (e : Expr) (l : KL) : Option Md := match e with
  | .Call (.Name x _) es [] _ => (match C.fns[f]? with
    | some d => if decide (x = d.name) && glo C x && plainN x && decide (es.length = d.np) && decide ((lnts as).length ≤ 1) then (match l C es with
      | some ms => if argsOk as d.lm ms then some d.rm else none
      | none => none) else none
    | none => none)
  | _ => none
def kMut (C : Ck) (md : List Md) (nm : Str) (g : Md → Md) (i : Nat) (n : Bool) (e : Expr) (l : KL) : Option Md := match nameAttr nm e, oM (md[i]?) with
  | some (x, b), some m => if okN C i x && n then (match l C [b] with
    | some ms => if fits (g m) ms then some .F else none
    | none => none) else none
  | _, _ => none
/-- l.pop(), l.pop(i) -/
def noArgs : E → Bool
  | .nil => true
  | _ => false
def kPop (C : Ck) (md : List Md) (i : Nat) (n : Bool) (e : Expr) : Option Md := match nameAttr0 "pop" e, oM (md[i]?) with
  | some x, some m => if okN C i x && n then some m else none
  | _, _ => none
def kPopAt (C : Ck) (md : List Md) (i : Nat) (n : Bool) (e : Expr) (l : KL) : Option Md := match nameAttr "pop" e, oM (md[i]?) with
  | some (x, b), some m => if okN C i x && n then (match l C [b] with
    | some _ => some m
    | none => none) else none
  | _, _ => none
/-- o.m(a, ..), o a list or a tuple -/
def plainB : Expr → Bool
  | .Call _ [] [] _ => false
  | _ => true
def methOf (nm : Str) (e : Expr) : Option (Expr × List Expr) := match e with
  | .Call (.Attribute o n apos) (a :: es) [] cpos => if n = nm && apos.endLine == cpos.line && plainB o && decide (es.length ≤ 1) then some (o, a :: es) else none
  | _ => none
def methNm : Op → Option Str
  | .count => some "count"
  | .index => some "index"
  | .index3 => some "index"
  | _ => none
def kMeth (C : Ck) (o : Op) (n : Bool) (e : Expr) (a : KE) (l : KL) : Option Md := match methNm o with
  | some nm => (match methOf nm e with
    | some (x, es) => (match a C x, l C es with
      | some m, some ms => if flatM m && ms.all flatM then some .F else none
      | _, _ => none)
    | none => none)
  | none => none
/-- a < b < c -/
def cmpOp : Op → Option CmpOp
  | .eq => some .Eq
  | .ne => some .NotEq
  | .lt => some .Lt
  | .le => some .LtE
  | .gt => some .Gt
  | .ge => some .GtE
  | _ => none
def kChn (C : Ck) (o o' : Op) (e : Expr) (a b c : KE) : Option Md := match e with
  | .Compare x [p, q] [y, z] _ => if decide (cmpOp o = some p) && decide (cmpOp o' = some q) && !(lastMarks [p, q] [y, z]) then (match a C x, b C y, c C z with
    | some m1, some m2, some m3 => if flatM m1 && flatM m2 && flatM m3 then some .F else none
    | _, _, _ => none) else none
  | _ => none
def kIfs (C : Ck) (yes : Bool) (ifs : List Expr) (t : KT) : Bool := match ifs with
  | [] => yes
  | [x] => t C x
  | _ => false
def kLc (C : Ck) (md : List Md) (own : List Nat) (tg : Tg) (ik : Ik) (n : Bool) (yes : Bool) (m : Md) (e : Expr) (l : KL) (t : KT) (b : KE) : Option Md := match e with
  | .ListComp elt [⟨tx, iter, ifs, z⟩] scope _ => if decide (z = 0) && blkC C.N C.sc scope (ownP C own) && subB (tgs tg) own && n && tgE (blkCk C scope) md tg tx && kIfs (blkCk C scope) yes ifs t then (match itArgs C ik tx iter with
    | some es => (match l C es, b (blkCk C scope) elt with
      | some _, some m' => if fits m [m'] then some (.O m) else none
      | _, _ => none)
    | none => none) else none
  | _ => none
def kLc2 (C : Ck) (md : List Md) (own : List Nat) (tg : Tg) (ik : Ik) (n : Bool) (yes : Bool) (own1 : List Nat) (tg1 : Tg) (ik1 : Ik) (n1 : Bool) (yes1 : Bool) (m : Md) (e : Expr) (l : KL) (t : KT) (l1 : KL) (t1 : KT) (b : KE) : Option Md := match e with
  | .ListComp elt [⟨tx, iter, ifs, z⟩, ⟨tx1, iter1, ifs1, z1⟩] scope _ => if decide (z = 0) && decide (z1 = 0) && blkC C.N C.sc scope (ownP C own) && subB (tgs tg) own && subB own1 own && subB (tgs tg1) own1 && n && n1 && tgE (blkCk C scope) md tg tx && tgE (blkCk C scope) md tg1 tx1 && kIfs (blkCk C scope) yes ifs t && kIfs (blkCk C scope) yes1 ifs1 t1 then (match itArgs C ik tx iter, itArgs (blkCk C scope) ik1 tx1 iter1 with
    | some es, some es1 => (match l C es, l1 (blkCk C scope) es1, b (blkCk C scope) elt with
      | some _, some _, some m' => if fits m [m'] then some (.O m) else none
      | _, _, _ => none)
    | _, _ => none) else none
  | _ => none
def kDc (C : Ck) (md : List Md) (own : List Nat) (tg : Tg) (ik : Ik) (n : Bool) (yes : Bool) (e : Expr) (l : KL) (t : KT) (k b : KE) : Option Md := match e with
  | .DictComp kx elt [⟨tx, iter, ifs, z⟩] scope _ => if decide (z = 0) && blkC C.N C.sc scope (ownP C own) && subB (tgs tg) own && n && tgE (blkCk C scope) md tg tx && kIfs (blkCk C scope) yes ifs t then (match itArgs C ik tx iter with
    | some es => (match l C es, k (blkCk C scope) kx, b (blkCk C scope) elt with
      | some _, some mk, some _ => if flatM mk then some (.O .F) else none
      | _, _, _ => none)
    | none => none) else none
  | _ => none
def tAnd (C : Ck) (op : BoolOp) (e : Expr) (a b : KT) : Bool := match andOf e op with
  | some (x, y) => a C x && b C y
  | none => false
def tNot (C : Ck) (e : Expr) (a : KT) : Bool := match e with
  | .UnaryOp .Not x _ => a C x
  | _ => false
def tFlat (o : Option Md) : Bool := match o with
  | some m => flatM m
  | none => false
def tOp (C : Ck) (o : Op) (fr : Bool) (e : Expr) (l : KL) : Bool := if isCmp o then !fr && (kOp C o fr e l).isSome && !isBO e else plainT e && (kOp C o fr e l).isSome
def lCons (C : Ck) (md : List Md) (pk : Option Nat) (es : List Expr) (a : KE) (r : KL) : Option (List Md) := match es with
  | x :: xs => if nostar x then (match (match pk with
      | some i => chkPk C md i x
      | none => a C x), r C xs with
    | some m, some ms => some (m :: ms)
    | _, _ => none) else none
  | [] => none
def lNil (es : List Expr) : Option (List Md) := match es with
  | [] => some []
  | _ => none
mutual
def chkE (md : List Md) (a : E) (C : Ck) (e : Expr) : Option Md := match a with
  | .var i => kVar C md i e
  | .non => kNon e
  | .bl b => kBl b e
  | .int i => kInt i e
  | .str s => kStr s e
  | .op o fr as => kOp C o fr e (chkL md as)
  | .and a b => kAnd C .And e (chkE md a) (chkE md b)
  | .or a b => kAnd C .Or e (chkE md a) (chkE md b)
  | .not a => kNot C e (chkE md a)
  | .ite t a b => kIte C e (chkT md t) (chkE md a) (chkE md b)
  | .tup as => kTup C (noPk as) e (chkL md as)
  | .lst m as => kLst C (noPk as) m e (chkL md as)
  | .dsp ks as => kDsp C (noPk as) ks e (chkL md as)
  | .call f as => kCall C f as e (chkL md as)
  | .mut .append i as => kMut C md "append" (fun m => m) i (noPk as) e (chkL md as)
  | .mut .extend i as => kMut C md "extend" Md.O i (noPk as) e (chkL md as)
  | .mut .pop i as => kPop C md i (noArgs as) e
  | .mut .popAt i as => kPopAt C md i (noPk as) e (chkL md as)
  | .chn o o' a b c => kChn C o o' e (chkE md a) (chkE md b) (chkE md c)
  | .meth o a as => kMeth C o (noPk as) e (chkE md a) (chkL md as)
  | .lc own tg ik it c m b => kLc C md own tg ik (noPk it) (isYes c) m e (chkL md it) (chkT md c) (chkE md b)
  | .lc2 own tg ik it c own1 tg1 ik1 it1 c1 m b => kLc2 C md own tg ik (noPk it) (isYes c) own1 tg1 ik1 (noPk it1) (isYes c1) m e (chkL md it) (chkT md c) (chkL md it1) (chkT md c1) (chkE md b)
  | .dc own tg ik it c k b => kDc C md own tg ik (noPk it) (isYes c) e (chkL md it) (chkT md c) (chkE md k) (chkE md b)
  | _ => none
def chkT (md : List Md) (a : E) (C : Ck) (e : Expr) : Bool := match a with
  | .and a b => tAnd C .And e (chkT md a) (chkT md b)
  | .or a b => tAnd C .Or e (chkT md a) (chkT md b)
  | .not a => tNot C e (chkT md a)
  | .op o fr as => tOp C o fr e (chkL md as)
  | .call f as => plainT e && tFlat (kCall C f as e (chkL md as))
  | .var i => plainT e && tFlat (kVar C md i e)
  | .bl b => plainT e && tFlat (kBl b e)
  | _ => false
def chkL (md : List Md) (a : E) (C : Ck) (es : List Expr) : Option (List Md) := match a with
  | .nil => lNil es
  | .cons a r => lCons C md (pkI a) es (chkE md a) (chkL md r)
  | _ => none
end
/-! ### as rules -/
section
variable {C : Ck} {U : Ev} {X : Cx}
theorem XOk.blk (O : XOk C U X) {scope : Scope} {s : Shared} {H : Hp} {L : Addr} {cl : List (Str × Addr)} {fp : List Addr} : XOk (blkCk C scope) U (X.blk s H scope (compEnvC scope cl L X.env) fp) where
  N := O.N
  nd := O.nd
  sc := by
    show relS scope X.env.scope = relS scope C.sc
    rw [O.sc]
  calm := O.calm
  gd := O.gd
  un := O.un
  bl := O.bl
  cel := fun x h => by
    show (scope.names.lookup x == some .cell) = true
    rw [show scope.names.lookup x = some .cell from h]
    rfl
  xe := rfl
  fns := O.fns
theorem blk_ok (O : XOk C U X) {scope : Scope} {own : List Nat} (h : blkC C.N C.sc scope (ownP C own) = true) : BlkOk X.N X.env.scope scope (ownP C own) := by
  rw [O.N, O.sc]
  exact blkOk_by h
theorem ownP_map (own : List Nat) : (ownP C own).map (·.2) = own := by
  unfold ownP
  rw [List.map_map]
  show own.map id = own
  exact List.map_id own
theorem subB_ {xs ys : List Nat} (h : subB xs ys = true) : ∀ j ∈ xs, j ∈ ys := fun j hj => of_decide_eq_true (List.all_eq_true.mp h j hj)
theorem plainT_ {e : Expr} {env : Env} (h : plainT e = true) : ∀ whole, isTrue e env whole = (do let v ← whole; standAt e.pos; holding [v] (PySem.truthy v)) := by
  intro whole
  cases e with
  | UnaryOp op a p => cases op <;> first | rfl | cases h
  | BoolOp _ _ _ => cases h
  | IfExp _ _ _ _ => cases h
  | Compare _ _ _ _ => cases h
  | _ => rfl
theorem andOf_ {e x y : Expr} {op : BoolOp} (h : andOf e op = some (x, y)) : ∃ y0 r p, e = .BoolOp op (x :: y0 :: r) p ∧ y = tailB op y0 r p := by
  unfold andOf at h
  split at h
  · split at h
    · rename_i h2
      subst h2
      cases h
      exact ⟨_, _, _, rfl, rfl⟩
    · cases h
  · cases h
theorem PTs.imp {ifs : List Expr} {t t' : TT} (h : PTs X ifs t) (q : ∀ σ H Q, t' σ H Q → t σ H Q) : PTs X ifs t' := ⟨fun pins s σ H Q I w => h.run pins s σ H Q I (q σ H Q w)⟩
theorem PW.imp {e : Expr} {t t' : TT} (h : PW X e t) (q : ∀ σ H Q, t' σ H Q → t σ H Q) : PW X e t' := ⟨fun wh pins s σ H Q I w => h.run wh pins s σ H Q I (q σ H Q w)⟩
structure Snd (U : Ev) (a : E) : Prop where
  e : ∀ {C : Ck} {X : Cx} {md : List Md} {W : WX} {x : Expr} {m : Md}, XOk C U X → chkE md a C x = some m → PE X x (tD md m W (evE U a))
  t : ∀ {C : Ck} {X : Cx} {md : List Md} {W : WX} {x : Expr}, XOk C U X → chkT md a C x = true → PT X x (tDT md W (evT U a)) ∧ (isBO x = true → PW X x (tDT md W (evT U a)))
  l : ∀ {C : Ck} {X : Cx} {md : List Md} {W : WX} {es : List Expr} {ms : List Md}, XOk C U X → chkL md a C es = some ms → ∃ tes, PEs X es tes ∧ (∀ σ H Q, tDL md W (evL U a) a ms σ H Q → chain tes σ H Q) ∧ ∀ σ en vs ds tr, Ops md σ en a vs ds ms tr → ds.length = es.length
end
end Dt
end
section
set_option Elab.async false
set_option linter.all false
set_option maxRecDepth 100000
set_option maxHeartbeats 4000000
/-! Expressions: the checker is sound. -/
namespace Dt
open PySem PySem.Spec PyProof.Rows L2
def isLog : E → Bool
  | .and _ _ => true
  | .or _ _ => true
  | .not _ => true
  | _ => false
theorem evT_gen {U : Ev} {a : E} (h : isLog a = false) (σ : Sl) : evT U a σ = (evE U a σ).bind fun d σ => ofO (truthy d) σ := by
  cases a <;> first | exact absurd (show true = false from h) (by decide) | (rw [evT] <;> (intros; rename_i e; cases e))
theorem RepS.vw {md : List Md} {σ : L2.St} {en : Sl} {ts : List Root} {H : Hp} {v : V} {d : D} {m : Md} (h : RepS md σ en ((v, d, m) :: ts) H) (f : flatM m = true) : ∃ Z, Vw H Z v d := by
  obtain ⟨rs, S, Z, fp, z⟩ := h
  obtain ⟨g, w, _⟩ := z.own.get (List.mem_append_right _ (List.mem_cons_self ..))
  exact ⟨Z, w.vw f⟩
theorem RepS.boolV {md : List Md} {σ : L2.St} {en : Sl} {ts : List Root} {H : Hp} {v : V} {b : Bool} (h : RepS md σ en ((v, .bool b, .F) :: ts) H) : v = .bl b := by
  obtain ⟨Z, w⟩ := h.vw rfl
  exact vw_bl w
theorem nz (n : Nat) : (n != 0) = ((n : Int) != 0) := by
  cases n with
  | zero => rfl
  | succ n =>
    have h : ((n + 1 : Nat) : Int) ≠ 0 := by omega
    rw [bne_iff_ne.mpr h]
    rfl
theorem truV_of {K : PySem.W.Frag} {H : Hp} {Z : Addr → Prop} {v : V} {d : D} {b : Bool} (h : Vw H Z v d) (e : truthy d = some b) : TruV K v H b := by
  cases d with
  | none => cases (show v = .non from h); exact (Option.some.inj e).symm
  | bool c => cases vw_bl h; exact (Option.some.inj e).symm
  | int i => cases vw_int h; exact (Option.some.inj e).symm
  | str x =>
    cases vw_str h
    have e : (if x.length ≤ sizeLine then some (x.length != 0) else none) = some b := e
    split at e
    · refine ⟨by assumption, ?_⟩
      cases e
      exact nz _
    · cases e
  | list ds =>
    obtain ⟨a, xs, rfl, l, r⟩ := h
    refine .inl ⟨xs, l.sq, ?_⟩
    cases e
    cases r <;> rfl
  | tuple ds =>
    obtain ⟨a, xs, rfl, l, r⟩ := h
    refine .inr (.inl ⟨xs, l.sq, ?_⟩)
    cases e
    cases r <;> rfl
  | dict es => cases e
theorem cmp_bool {o : Op} {ds : List D} {d : D} (hc : isCmp o = true) (e : opF o ds = some d) : ∃ b, d = .bool b := by
  have no : ∀ {p : Prop}, (none : Option D) = some d → p := fun z => nomatch z
  have k : ∀ {o : Option Bool}, dBool o = some d → ∃ b, d = .bool b := fun h => by
    obtain ⟨b, _, q⟩ := dBool_some h
    exact ⟨b, q⟩
  match ds, e with
  | [], e => exact no e
  | [a], e => cases o <;> first | exact absurd hc (by decide) | exact no e | exact ⟨_, (Option.some.inj e).symm⟩
  | [a, b], e => cases o <;> first | exact absurd hc (by decide) | exact no e | exact k e
  | [a, b, c], e => cases o <;> first | exact absurd hc (by decide) | exact no e
  | a :: b :: c :: f :: r, e => exact no e
section
variable {C : Ck} {U : Ev} {X : Cx} {md : List Md} {W : WX}
theorem t_gen {a : E} {x : Expr} {m : Md} (h : PE X x (tD md m W (evE U a))) (f : flatM m = true) (p : plainT x = true) (ev : ∀ σ, evT U a σ = (evE U a σ).bind fun d σ => ofO (truthy d) σ) : PT X x (tDT md W (evT U a)) := by
  refine PT.imp (pt_truth h (plainT_ p)) fun σ H Q ⟨en, ts, R, P⟩ => ⟨en, ts, R, ?_⟩
  rw [ev] at P
  refine P.bind.mono fun d en' _ P2 v H' R' => ?_
  obtain ⟨b, e, q⟩ := P2.ofO
  obtain ⟨Z, w⟩ := R'.vw f
  exact ⟨b, truV_of w e, q H' R'.tail⟩
/-- a comparison as a test -/
theorem cmp_test {o : Op} {as : E} {ms : List Md} {es : List Expr} {x : Expr} {tes : List TE} (O : XOk C U X) (h : opArgs C o x = some es) (hc : isCmp o = true) (fl : ms.all flatM = true) (T : PEs X es tes) (imp : ∀ σ H Q, tDL md W (evL U as) as ms σ H Q → chain tes σ H Q) :
    PT X x (tDT md W (evT U (.op o false as))) := by
  obtain ⟨r, od, k⟩ := op_okT O h hc
  refine PT.imp (k tes T) fun σ H Q ⟨en, ts, R, P⟩ => imp σ H _ ⟨en, ts, R, ?_⟩
  rw [show evT U (.op o false as) en = (evE U (.op o false as) en).bind fun d σ => ofO (truthy d) σ from evT_gen rfl en, show evE U (.op o false as) en = (evL U as en).bind fun ds σ => ofO (opR o false ds) σ by rw [evE]] at P
  refine P.bind.bind.mono fun ds en' _ P2 vs H' tr R' o' => ?_
  obtain ⟨d, e, q⟩ := P2.ofO
  obtain ⟨b, e2, q⟩ := q.ofO
  obtain ⟨c, rfl⟩ := cmp_bool hc (opR_any e)
  have e2 : c = b := Option.some.inj e2
  subst e2
  exact op_at od R' o' fl e fun v H' R' => ⟨c, R'.boolV, q H' R'.tail⟩
theorem isYes_ {c : E} (h : isYes c = true) : c = .bl true := by
  unfold isYes at h
  split at h
  · rfl
  · cases h
theorem ifs_ok {c : E} (hc : Snd U c) (O : XOk C U X) {ifs : List Expr} (h : kIfs C (isYes c) ifs (chkT md c) = true) : PTs X ifs (tDT md W (evT U c)) := by
  match ifs, h with
  | [], h =>
    have e : c = .bl true := isYes_ h
    subst e
    refine PTs.imp pts_nil fun σ H Q ⟨en, ts, R, P⟩ => ?_
    have e : evT U (.bl true) en = .ok true en := by
      rw [evT_gen rfl, evE]
      rfl
    rw [e] at P
    exact P H R
  | [x], h => exact pts_one (hc.t O h).1
  | _ :: _ :: _, h => cases h
theorem pi_ok {it : E} (hit : Snd U it) (O : XOk C U X) {ik : Ik} {t iter : Expr} {es : List Expr} {ms : List Md} (h1 : itArgs C ik t iter = some es) (h2 : chkL md it C es = some ms) (n : noPk it = true) :
    PI X t iter (iD (wkI ik) md W (itM U ik it)) ∧ ∀ env x, foldedSetIterable iter env x = pure x := by
  obtain ⟨r, idr, k, fs⟩ := it_ok O h1
  obtain ⟨tes, T, imp, _⟩ := hit.l (W := W) O h2
  exact ⟨PI.imp (k tes T) fun σ H R w => it_imp idr n imp σ H R w, fs⟩
theorem fits_one {m m' : Md} (h : fits m [m'] = true) : m' = m ∨ m = .F := by
  unfold fits at h
  simp only [List.all_cons, List.all_nil, Bool.and_true, Bool.or_eq_true, decide_eq_true_eq] at h
  exact h.symm
/-- what a name's store may be -/
def SetOk (X : Cx) (x : Expr) (t : TE) : Prop := ∀ (i : Nat) (y : Str) (py spos : Pos), X.N[i]? = some y → X.env.scope.names.lookup y = some .local → swapsWith x (some (.Name y py)) spos.line X.env = pure true → PS X (.Assign [.Name y py] x spos) (tAsg t (gName i))
end
end Dt
end
section
set_option Elab.async false
set_option linter.all false
set_option maxRecDepth 100000
set_option maxHeartbeats 4000000
/-! Comprehensions: the checker is sound. -/
namespace Dt
open PySem PySem.Spec PyProof.Rows L2
section
variable {C : Ck} {U : Ev} {X : Cx} {md : List Md} {W : WX}
theorem lc_rules {own : List Nat} {tg : Tg} {ik : Ik} {it c b : E} {m mm : Md} {x : Expr} (hit : Snd U it) (hc : Snd U c) (hb : Snd U b) (O : XOk C U X) (h : chkE md (.lc own tg ik it c m b) C x = some mm) :
    mm = .O m ∧ PE X x (tD md (.O m) W (evE U (.lc own tg ik it c m b))) ∧ SetOk X x (tD md (.O m) W (evE U (.lc own tg ik it c m b))) := by
  rw [chkE] at h
  unfold kLc at h
  split at h
  case h_2 => cases h
  rename_i elt t iter ifs n scope p
  split at h
  case isFalse => cases h
  rename_i hb1
  simp only [Bool.and_eq_true, decide_eq_true_eq] at hb1
  obtain ⟨⟨⟨⟨⟨rfl, k2⟩, k3⟩, k4⟩, k5⟩, k6⟩ := hb1
  split at h
  case h_2 => cases h
  rename_i es e1
  split at h
  case h_2 => cases h
  rename_i ms m' e2 e3
  split at h
  case isFalse => cases h
  rename_i hf
  cases h
  obtain ⟨pi, fs⟩ := pi_ok (W := W) hit O e1 e2 k4
  have B := blk_ok O k2
  have imp := lc_imp (wk := wkI ik) (md := md) (W := W) (U := U) (ik := ik) (it := it) (c := c) (e := b) (fits_one hf) (subB_ k3)
  have e := ownP_map (C := C) own
  refine ⟨rfl, PE.imp (pe_lc O.calm O.nd pi B (fun _ _ _ _ _ => pg_snd O.blk k5 (wk_tg e1 k5)) (fun _ _ _ _ _ => ifs_ok (W := W) hc O.blk k6) (fun _ _ _ _ _ => hb.e (W := W) O.blk e3) (fs _)) fun σ H Q w => ?_, fun i y py spos hy hyl hsw => PS.imp (ps_setLc O.calm O.nd hy hyl hsw pi B (fun _ _ _ _ _ => pg_snd O.blk k5 (wk_tg e1 k5)) (fun _ _ _ _ _ => ifs_ok (W := W) hc O.blk k6) (fun _ _ _ _ _ => hb.e (W := W) O.blk e3) (fs _)) fun D σ H w => ?_⟩
  · rw [e]; exact imp σ H Q w
  · rw [e]; exact imp σ H _ w
theorem lc2_rules {own own1 : List Nat} {tg tg1 : Tg} {ik ik1 : Ik} {it it1 c c1 b : E} {m mm : Md} {x : Expr} (hit : Snd U it) (hc : Snd U c) (hit1 : Snd U it1) (hc1 : Snd U c1) (hb : Snd U b) (O : XOk C U X) (h : chkE md (.lc2 own tg ik it c own1 tg1 ik1 it1 c1 m b) C x = some mm) :
    mm = .O m ∧ PE X x (tD md (.O m) W (evE U (.lc2 own tg ik it c own1 tg1 ik1 it1 c1 m b))) ∧ SetOk X x (tD md (.O m) W (evE U (.lc2 own tg ik it c own1 tg1 ik1 it1 c1 m b))) := by
  rw [chkE] at h
  unfold kLc2 at h
  split at h
  case h_2 => cases h
  rename_i elt t iter ifs z t1 iter1 ifs1 z1 scope p
  split at h
  case isFalse => cases h
  rename_i hb1
  simp only [Bool.and_eq_true, decide_eq_true_eq] at hb1
  obtain ⟨⟨⟨⟨⟨⟨⟨⟨⟨⟨⟨rfl, rfl⟩, k2⟩, k3⟩, k3a⟩, k3b⟩, k4⟩, k4a⟩, k5⟩, k5a⟩, k6⟩, k6a⟩ := hb1
  split at h
  case h_2 => cases h
  rename_i es es1 e1 e1a
  split at h
  case h_2 => cases h
  rename_i ms ms1 m' e2 e2a e3
  split at h
  case isFalse => cases h
  rename_i hf
  cases h
  obtain ⟨pi, fs⟩ := pi_ok (W := W) hit O e1 e2 k4
  have B := blk_ok O k2
  have imp := lc2_imp (wk := wkI ik) (wk1 := wkI ik1) (md := md) (W := W) (U := U) (ik := ik) (it := it) (c := c) (ik1 := ik1) (it1 := it1) (c1 := c1) (e := b) (fits_one hf) (subB_ k3) (subB_ k3b)
  have e := ownP_map (C := C) own
  have hv : ∀ i ∈ own1, i ∈ (ownP C own).map (·.2) := by rw [e]; exact subB_ k3a
  have fs1 : ∀ env x, foldedSetIterable iter1 env x = pure x := (pi_ok (W := W) hit1 (O.blk (scope := scope) (s := X.s_0) (H := X.H_0) (L := 0) (cl := []) (fp := [])) e1a e2a k4a).2
  refine ⟨rfl, PE.imp (pe_lc2 O.calm O.nd pi B hv (fun _ _ _ _ _ => pg_snd O.blk k5 (wk_tg e1 k5)) (fun _ _ _ _ _ => ifs_ok (W := W) hc O.blk k6) (fun _ _ _ _ _ => (pi_ok (W := W) hit1 O.blk e1a e2a k4a).1) (fun _ _ _ _ _ => pg_snd O.blk k5a (wk_tg e1a k5a)) (fun _ _ _ _ _ => ifs_ok (W := W) hc1 O.blk k6a) (fun _ _ _ _ _ => hb.e (W := W) O.blk e3) (fs _) fs1) fun σ H Q w => ?_,
    fun i y py spos hy hyl hsw => PS.imp (ps_setLc2 O.calm O.nd hy hyl hsw pi B hv (fun _ _ _ _ _ => pg_snd O.blk k5 (wk_tg e1 k5)) (fun _ _ _ _ _ => ifs_ok (W := W) hc O.blk k6) (fun _ _ _ _ _ => (pi_ok (W := W) hit1 O.blk e1a e2a k4a).1) (fun _ _ _ _ _ => pg_snd O.blk k5a (wk_tg e1a k5a)) (fun _ _ _ _ _ => ifs_ok (W := W) hc1 O.blk k6a) (fun _ _ _ _ _ => hb.e (W := W) O.blk e3) (fs _) fs1) fun D σ H w => ?_⟩
  · rw [e]; exact imp σ H Q w
  · rw [e]; exact imp σ H _ w
theorem dc_rules {own : List Nat} {tg : Tg} {ik : Ik} {it c k b : E} {mm : Md} {x : Expr} (hit : Snd U it) (hc : Snd U c) (hk : Snd U k) (hb : Snd U b) (O : XOk C U X) (h : chkE md (.dc own tg ik it c k b) C x = some mm) :
    mm = .O .F ∧ PE X x (tD md (.O .F) W (evE U (.dc own tg ik it c k b))) := by
  rw [chkE] at h
  unfold kDc at h
  split at h
  case h_2 => cases h
  rename_i kx elt t iter ifs n scope p
  split at h
  case isFalse => cases h
  rename_i hb1
  simp only [Bool.and_eq_true, decide_eq_true_eq] at hb1
  obtain ⟨⟨⟨⟨⟨rfl, k2⟩, k3⟩, k4⟩, k5⟩, k6⟩ := hb1
  split at h
  case h_2 => cases h
  rename_i es e1
  split at h
  case h_2 => cases h
  rename_i ms mk mv e2 e3 e4
  split at h
  case isFalse => cases h
  rename_i hf
  cases h
  obtain ⟨pi, fs⟩ := pi_ok (W := W) hit O e1 e2 k4
  have B := blk_ok O k2
  have imp := dc_imp (wk := wkI ik) (md := md) (W := W) (U := U) (ik := ik) (it := it) (c := c) (k := k) (e := b) (mv := mv) hf (subB_ k3)
  have e := ownP_map (C := C) own
  refine ⟨rfl, PE.imp (pe_dc O.calm O.nd pi B (fun _ _ _ _ _ => pg_snd O.blk k5 (wk_tg e1 k5)) (fun _ _ _ _ _ => ifs_ok (W := W) hc O.blk k6) (fun _ _ _ _ _ => hk.e (W := W) O.blk e3) (fun _ _ _ _ _ => hb.e (W := W) O.blk e4) (fs _)) fun σ H Q w => ?_⟩
  rw [e]; exact imp σ H Q w
end
end Dt
end
section
set_option Elab.async false
set_option linter.all false
set_option maxRecDepth 100000
set_option maxHeartbeats 4000000
/-! a < b < c; methods of lists and tuples. -/
namespace Dt
open PySem PySem.Spec PyProof.Rows L2
section
variable {C : Ck} {U : Ev} {X : Cx} {md : List Md} {W : WX}
theorem cmp_rule (O : XOk C U X) {o : Op} {p : CmpOp} (h : cmpOp o = some p) : ∃ r, OpD2 o r ∧ OpR X (compareOp p) r := by
  have hu := O.un
  cases o with
  | eq => cases h; exact ⟨_, od_eq, op_eqD (by omega)⟩
  | ne => cases h; exact ⟨_, od_ne, op_neD (by omega)⟩
  | lt => cases h; exact ⟨_, od_lt, op_lt.or (op_ltD (by omega))⟩
  | gt => cases h; exact ⟨_, od_gt, op_gt.or (op_gtD (by omega))⟩
  | le => cases h; exact ⟨_, od_le, op_le⟩
  | ge => cases h; exact ⟨_, od_ge, op_ge⟩
  | _ => cases h
theorem Ops.two {σ : L2.St} {en : Sl} {a b : E} {v w : V} {d e : D} {m m' : Md} (ha : isPk a = false) (hb : isPk b = false) : Ops md σ en (.cons a (.cons b .nil)) [v, w] [d, e] [m, m'] [(v, d, m), (w, e, m')] :=
  .tmp ha (.tmp hb .nil)
theorem chn_imp {o o' : Op} {a b c : E} {m1 m2 m3 : Md} {r r' : R2} (od : OpD2 o r) (od' : OpD2 o' r') (bo : ∀ x y d, opF o [x, y] = some d → ∃ k, d = .bool k) (f1 : flatM m1 = true) (f2 : flatM m2 = true) (f3 : flatM m3 = true)
    (σ : L2.St) (H : Hp) (Q : VK) (h : tD md .F W (evE U (.chn o o' a b c)) σ H Q) : tChain r r' (tD md m1 W (evE U a)) (tD md m2 W (evE U b)) (tD md m3 W (evE U c)) σ H Q := by
  obtain ⟨en, ts, R, P⟩ := h
  rw [show evE U (.chn o o' a b c) en = (evE U a en).bind fun x σ => (evE U b σ).bind fun y σ => chnO o' y (evE U c) σ (opF o [x, y]) by rw [evE]] at P
  refine ⟨en, ts, R, P.bind.mono fun x en1 _ P1 v1 H1 R1 => ⟨en1, _, R1, (P1.bind.more [(v1, x, m1)]).mono fun y en2 _ P2 v2 H2 R2 => ?_⟩⟩
  have two : isPk (.bl true) = false := rfl
  cases e : opF o [x, y] with
  | none => rw [e] at P2; exact (show False from P2).elim
  | some d =>
    rw [e] at P2
    obtain ⟨k, rfl⟩ := bo _ _ _ e
    have R2' : RepS md σ en2 ([(v1, x, m1), (v2, y, m2)] ++ ts) H2 := R2.permT (.swap _ _ _)
    have fl : ([m1, m2] : List Md).all flatM = true := by simp [f1, f2]
    -- keep the second operand's root beneath
    obtain ⟨rs, S, Z, fp, z⟩ := id R2
    have w : VwA H2 Z [v1, v2] [x, y] := by
      have hm1 : (v1, x, m1) ∈ rs ++ ([(v2, y, m2)] ++ ([(v1, x, m1)] ++ ts)) := List.mem_append_right _ (List.mem_append_right _ (List.mem_append_left _ (List.mem_cons_self ..)))
      have hm2 : (v2, y, m2) ∈ rs ++ ([(v2, y, m2)] ++ ([(v1, x, m1)] ++ ts)) := List.mem_append_right _ (List.mem_append_left _ (List.mem_cons_self ..))
      obtain ⟨_, w1, _⟩ := z.own.get hm1
      obtain ⟨_, w2, _⟩ := z.own.get hm2
      exact .cons (w1.vw f1) (.cons (w2.vw f2) .nil)
    refine od false _ H2 Z fp [v1, v2] [x, y] (.bool k) _ z w (by unfold opR; rw [e]; rfl) fun v3 H3 R3 => ?_
    have R4 : RepS md σ en2 ((v3, .bool k, .F) :: (v2, y, m2) :: ([(v1, x, m1)] ++ ts)) H3 := ⟨rs, S, R3.perm perm_mid.symm⟩
    have hv := R4.boolV
    subst hv
    refine ⟨k, rfl, ?_⟩
    cases k with
    | false =>
      rw [if_neg Bool.false_ne_true]
      have P3 : Post md W σ ts (Out.ok (PyData.bool false) en2) _ := P2
      exact P3 _ _ ((RepS.drop (tr := [(v2, y, m2), (v1, x, m1)]) R4.tail).flat fun Z => .bl _)
    | true =>
      rw [if_pos rfl]
      have P3 : Post md W σ ts ((evE U c en2).bind fun z σ => ofO (opF o' [y, z]) σ) _ := P2
      refine ⟨en2, _, R4.tail, (P3.bind.more [(v2, y, m2), (v1, x, m1)]).mono fun u en3 _ P4 v4 H4 R5 => ?_⟩
      obtain ⟨d, e5, q⟩ := P4.ofO
      obtain ⟨rs5, S5, Z5, fp5, z5⟩ := id R5
      have w5 : VwA H4 Z5 [v2, v4] [y, u] := by
        obtain ⟨_, w1, _⟩ := z5.own.get (List.mem_append_right _ (List.mem_cons_of_mem _ (List.mem_cons_self ..)))
        obtain ⟨_, w2, _⟩ := z5.own.get (List.mem_append_right _ (List.mem_cons_self ..))
        exact .cons (w1.vw f2) (.cons (w2.vw f3) .nil)
      refine od' false _ H4 Z5 fp5 [v2, v4] [y, u] d _ z5 w5 (by unfold opR; rw [e5]; rfl) fun v6 H6 R6 => q v6 H6 ?_
      have R7 : RepS md σ en3 ((v6, d, .F) :: (v4, u, m3) :: (v2, y, m2) :: ([(v1, x, m1)] ++ ts)) H6 := ⟨rs5, S5, R6.perm perm_mid.symm⟩
      obtain ⟨rs7, S7, raw⟩ := R7
      refine ⟨rs7, S7, raw.sub (more := [(v4, u, m3), (v2, y, m2), (v1, x, m1)]) ?_⟩
      refine perm_mid.trans ?_
      refine List.Perm.trans ?_ (perm_mid.symm.append_left _)
      refine List.Perm.trans ?_ perm_mid.symm
      refine List.Perm.cons _ ?_
      exact List.perm_append_comm_assoc rs7 [(v4, u, m3), (v2, y, m2), (v1, x, m1)] ts
theorem cmpOp_bool {o : Op} {p : CmpOp} (h : cmpOp o = some p) (x y d : D) (e : opF o [x, y] = some d) : ∃ k, d = .bool k := by
  cases o with
  | eq => obtain ⟨b, _, rfl⟩ := dBool_some e; exact ⟨b, rfl⟩
  | ne => obtain ⟨b, _, rfl⟩ := dBool_some e; exact ⟨b, rfl⟩
  | lt => obtain ⟨b, _, rfl⟩ := dBool_some e; exact ⟨b, rfl⟩
  | gt => obtain ⟨b, _, rfl⟩ := dBool_some e; exact ⟨b, rfl⟩
  | le => obtain ⟨b, _, rfl⟩ := dBool_some e; exact ⟨b, rfl⟩
  | ge => obtain ⟨b, _, rfl⟩ := dBool_some e; exact ⟨b, rfl⟩
  | _ => cases h
theorem chn_e {o o' : Op} {a b c : E} {x : Expr} {m : Md} (ha : Snd U a) (hb : Snd U b) (hc : Snd U c) (O : XOk C U X) (h : kChn C o o' x (chkE md a) (chkE md b) (chkE md c) = some m) : m = .F ∧ PE X x (tD md .F W (evE U (.chn o o' a b c))) := by
  unfold kChn at h
  split at h
  case h_2 => cases h
  rename_i ax p q y z pos
  split at h
  case isFalse => cases h
  rename_i hq
  simp only [Bool.and_eq_true, decide_eq_true_eq, Bool.not_eq_true'] at hq
  obtain ⟨⟨h1, h2⟩, h3⟩ := hq
  split at h
  case h_2 => cases h
  rename_i m1 m2 m3 e1 e2 e3
  split at h
  case isFalse => cases h
  rename_i hf
  simp only [Bool.and_eq_true] at hf
  cases h
  obtain ⟨r, od, orr⟩ := cmp_rule O h1
  obtain ⟨r', od', orr'⟩ := cmp_rule O h2
  exact ⟨rfl, PE.imp (pe_chain orr orr' (ha.e (W := W) O e1) (hb.e (W := W) O e2) (hc.e (W := W) O e3) h3) fun σ H Q w => chn_imp od od' (cmpOp_bool h1) hf.1.1 hf.1.2 hf.2 σ H Q w⟩
theorem methOf_ {nm : Str} {e x : Expr} {es : List Expr} (h : methOf nm e = some (x, es)) : ∃ apos a r cpos, e = .Call (.Attribute x nm apos) (a :: r) [] cpos ∧ es = a :: r ∧ (apos.endLine == cpos.line) = true ∧ plainB x = true ∧ r.length ≤ 1 := by
  unfold methOf at h
  split at h
  · split at h
    · rename_i h2
      simp only [Bool.and_eq_true, decide_eq_true_eq] at h2
      obtain ⟨⟨⟨rfl, h3⟩, h4⟩, h5⟩ := h2
      cases h
      exact ⟨_, _, _, _, rfl, rfl, h3, h4, h5⟩
    · cases h
  · cases h
theorem base_no {x : Expr} {nm : Str} {env : Env} (h : plainB x = true) : attributeBase x nm env (eval x env) = eval x env := by
  unfold attributeBase
  split
  · cases h
  · rfl
theorem few2 {a : Expr} {r : List Expr} {tes : List TE} {cpos : Pos} (T : PEs X (a :: r) tes) (hl : r.length ≤ 1) : ((backTo cpos (starEach (a :: r) X.env)).all (fun x => !x.1) && (backToKw cpos (keywordEach [] X.env)).all (fun x => x.1.isSome)
      && decide ((a :: r).length + ([] : List Keyword).length + (if ([] : List Keyword).isEmpty then 0 else 1) < 30)) = true := by
  match r, hl with
  | [], _ =>
    obtain ⟨t, rfl, _, n⟩ := T.one
    rw [star_no n]
    rfl
  | [b], _ =>
    obtain ⟨t, u, rfl, _, _, n, n2⟩ := T.two
    rw [star_no n, show starEach [b] X.env = [(false, eval b X.env)] from star_no n2]
    rfl
theorem meth_imp {o : Op} {a as : E} {m : Md} {ms : List Md} {tes : List TE} {r r' : V → List V → Hp → VK → Prop} (mdD : MethD o r r') (f1 : flatM m = true) (f2 : ms.all flatM = true)
    (imp : ∀ σ H Q, tDL md W (evL U as) as ms σ H Q → chain tes σ H Q) (σ : L2.St) (H : Hp) (Q : VK) (h : tD md .F W (evE U (.meth o a as)) σ H Q) : tBE X.K r r' (tD md m W (evE U a)) (chain tes) σ H Q := by
  obtain ⟨en, ts, R, P⟩ := h
  rw [show evE U (.meth o a as) en = (evE U a en).bind fun x σ => if isSeqD x then (evL U as σ).bind fun ds σ => ofO (opF o (x :: ds)) σ else .bad by rw [evE]] at P
  refine ⟨en, ts, R, P.bind.mono fun x en1 _ P1 v1 H1 R1 => ?_⟩
  by_cases hs : isSeqD x = true
  case neg => rw [if_neg hs] at P1; exact (show False from P1).elim
  rw [if_pos hs] at P1
  have go : ∀ (k : List V → Hp → Prop), (∀ (Z : Addr → Prop) (fp : List Addr) (roots : List Root) (vs : List V) (ds : List D) (d : D) (H2 : Hp), RepZ roots H2 Z fp → Vw H2 Z v1 x → VwA H2 Z vs ds → opF o (x :: ds) = some d → Wish roots Q d .F → k vs H2) → chain tes σ H1 k := fun k hk => by
    refine imp σ H1 _ ⟨en1, _, R1, (P1.bind.more [(v1, x, m)]).mono fun ds en2 _ P2 vs H2 tr R2 o2 => ?_⟩
    obtain ⟨d, e, q⟩ := P2.ofO
    obtain ⟨rs, S, Z, fp, z⟩ := id R2
    obtain ⟨_, w1, _⟩ := z.own.get (List.mem_append_right _ (List.mem_append_right _ (List.mem_cons_self ..)))
    have w := ops_vw S z (fun r h => List.mem_append_left _ h) o2 (fun r h => List.mem_append_right _ (List.mem_append_left _ h)) f2
    refine hk Z fp _ vs ds d H2 z (w1.vw f1) w e fun v H' R' => q v H' ⟨rs, S, ?_⟩
    refine R'.sub (more := tr ++ [(v1, x, m)]) ?_
    refine List.Perm.trans ?_ (perm_mid (a := (v, d, Md.F)) (l := rs) (r := ts) |>.symm.append_left _)
    refine List.Perm.trans ?_ perm_mid.symm
    refine List.Perm.cons _ ?_
    show (rs ++ (tr ++ ([(v1, x, m)] ++ ts))).Perm ((tr ++ [(v1, x, m)]) ++ (rs ++ ts))
    rw [← List.append_assoc tr]
    exact List.perm_append_comm_assoc ..
  obtain ⟨Z1, w1⟩ := R1.vw f1
  cases x with
  | list xs =>
    obtain ⟨a0, us, rfl, hl, _⟩ := w1
    exact .inl ⟨.inl ⟨rfl, us, hl.sq⟩, go _ fun Z fp roots vs ds d H2 z hv hvs e q => (mdD roots H2 Z fp _ _ vs ds d Q z hv hvs e q).1 _ rfl⟩
  | tuple xs =>
    obtain ⟨a0, us, rfl, hl, _⟩ := w1
    exact .inr ⟨⟨a0, us, rfl, hl⟩, go _ fun Z fp roots vs ds d H2 z hv hvs e q => (mdD roots H2 Z fp _ _ vs ds d Q z hv hvs e q).2 _ rfl⟩
  | _ => cases hs
theorem meth_e {o : Op} {a as : E} {x : Expr} {m : Md} (ha : Snd U a) (hl : Snd U as) (O : XOk C U X) (h : kMeth C o (noPk as) x (chkE md a) (chkL md as) = some m) : m = .F ∧ PE X x (tD md .F W (evE U (.meth o a as))) := by
  have hu := O.un
  unfold kMeth at h
  split at h
  case h_2 => cases h
  rename_i nm hn
  split at h
  case h_2 => cases h
  rename_i y es e1
  split at h
  case h_2 => cases h
  rename_i m1 ms e2 e3
  split at h
  case isFalse => cases h
  rename_i hf
  obtain ⟨f1, f2⟩ := Bool.and_eq_true_iff.mp hf
  cases h
  obtain ⟨apos, b, r, cpos, rfl, rfl, k1, k2, k3⟩ := methOf_ e1
  obtain ⟨tes, T, imp, _⟩ := hl.l (W := W) O e3
  have T2 := T
  cases T with
  | cons n1 _ h1 t1 =>
    have pa := T2.pa
    have fin : ∀ {id id' : String} {r1 r2 : V → List V → Hp → VK → Prop}, MethD o r1 r2 → Slot "list" nm id → typeOf (.builtin id) = pure (.type "method_descriptor") → MtR X id r1 → Slot "tuple" nm id' → typeOf (.builtin id') = pure (.type "method_descriptor") → MtR X id' r2 →
        PE X (.Call (.Attribute y nm apos) (b :: r) [] cpos) (tD md .F W (evE U (.meth o a as))) := fun hmd s1 t1' m1' s2 t2' m2' =>
      PE.imp (pe_bmE s1 t1' m1' s2 t2' m2' (ha.e (W := W) O e2) pa (base_no k2) (few2 T2 k3) k1 (star_no n1) t1.plain) fun σ H Q w => meth_imp hmd f1 f2 imp σ H Q w
    refine ⟨rfl, ?_⟩
    cases o with
    | count => cases hn; exact fin md_count F.slot_list_count F.type_list_count (mt_cntL (by omega)) F.slot_tuple_count F.type_tuple_count (mt_cntT (by omega))
    | index => cases hn; exact fin md_index F.slot_list_index F.type_list_index (mt_ixL (by omega)) F.slot_tuple_index F.type_tuple_index (mt_ixT1 (by omega))
    | index3 => cases hn; exact fin md_index3 F.slot_list_index F.type_list_index mt_no F.slot_tuple_index F.type_tuple_index (mt_ixT2 (by omega))
    | _ => cases hn
theorem pop_e {i : Nat} {as : E} {x : Expr} {m : Md} (O : XOk C U X) (h : kPop C md i (noArgs as) x = some m) : PE X x (tD md m W (evE U (.mut .pop i as))) := by
  unfold kPop at h
  split at h
  case h_2 => cases h
  rename_i y m0 e1 e2
  split at h
  case isFalse => cases h
  rename_i hq
  obtain ⟨h1, h2⟩ := Bool.and_eq_true_iff.mp hq
  cases h
  have e2 : md[i]? = some (.O m) := by
    unfold oM at e2
    split at e2
    · cases e2; assumption
    · cases e2
  have has : as = .nil := by
    cases as <;> first | rfl | cases h2
  subst has
  obtain ⟨p, apos, cpos, rfl, hline⟩ := nameAttr0_ e1
  obtain ⟨k1, k2, k3, k4⟩ := okN_ O h1
  refine PE.imp (pe_bm0 PySem.F.plainAttrs_list PySem.F.slot_list_pop PySem.F.type_list_pop mt_pop (pe_var k1 k2 k3 k4) rfl hline) fun σ H Q w => ?_
  have q := mut_imp (X := X) (tes := []) (ms := []) (as := .nil) (U := U) e2 (fun σ H Q h => by
    obtain ⟨en, ts, R, P⟩ := h
    rw [show evL U .nil en = .ok [] en by rw [evL]] at P
    exact P [] H [] R .nil) (pop_step e2) σ H Q w
  obtain ⟨v, hv, ty, k⟩ := q
  exact ⟨v, hv, ty, k⟩
theorem popAt_e {i : Nat} {as : E} {x : Expr} {m : Md} (hl : Snd U as) (O : XOk C U X) (h : kPopAt C md i (noPk as) x (chkL md as) = some m) (one : ∀ {b : Expr} {ms : List Md}, chkL md as C [b] = some ms → ∃ a, as = .cons a .nil) : PE X x (tD md m W (evE U (.mut .popAt i as))) := by
  unfold kPopAt at h
  split at h
  case h_2 => cases h
  rename_i y b m0 e1 e2
  split at h
  case isFalse => cases h
  rename_i hq
  obtain ⟨h1, n⟩ := Bool.and_eq_true_iff.mp hq
  split at h
  case h_2 => cases h
  rename_i ms e3
  cases h
  have e2 : md[i]? = some (.O m) := by
    unfold oM at e2
    split at e2
    · cases e2; assumption
    · cases e2
  obtain ⟨a, rfl⟩ := one e3
  obtain ⟨p, apos, cpos, rfl, hline⟩ := nameAttr_ e1
  obtain ⟨tes, T, imp, _⟩ := hl.l (W := W) O e3
  have f : fits .F ms = true := by unfold fits; simp
  exact PE.imp (meth_pe PySem.F.plainAttrs_list PySem.F.slot_list_pop PySem.F.type_list_pop mt_popAt O h1 hline T) fun σ H Q w => mut_imp e2 imp (popAt_step e2 n f) σ H Q w
end
end Dt
end
section
set_option Elab.async false
set_option linter.all false
set_option maxRecDepth 100000
set_option maxHeartbeats 4000000
/-! Expressions: the checker is sound (the whole). -/
namespace Dt
open PySem PySem.Spec PyProof.Rows L2
theorem evL_cons {U : Ev} {a r : E} (h : pkI a = none) (σ : Sl) : evL U (.cons a r) σ = (evE U a σ).bind fun d σ => (evL U r σ).bind fun ds σ => .ok (d :: ds) σ := by
  cases a <;> first | exact nomatch (show some _ = none from h) | (rw [evL] <;> (intros; rename_i e; cases e))
theorem pkI_no {a : E} (h : pkI a = none) : isPk a = false := by
  cases a <;> first | exact nomatch (show some _ = none from h) | rfl
section
variable {C : Ck} {U : Ev} {X : Cx} {md : List Md} {W : WX}
theorem var_e {i : Nat} {x : Expr} {m : Md} (O : XOk C U X) (h : kVar C md i x = some m) : m = .F ∧ PE X x (tD md .F W (evE U (.var i))) := by
  unfold kVar at h
  split at h
  case h_2 => cases h
  split at h
  case isFalse => cases h
  rename_i y p hq
  cases h
  obtain ⟨h1, h2⟩ := Bool.and_eq_true_iff.mp hq
  have h2 := of_decide_eq_true h2
  obtain ⟨k1, k2, k3, k4⟩ := okN_ O h1
  refine ⟨rfl, PE.imp (pe_var k1 k2 k3 k4) fun σ H Q ⟨en, ts, R, P⟩ => ?_⟩
  rw [show evE U (.var i) en = ofO (rdS en i) en by rw [evE]] at P
  obtain ⟨d, e, q⟩ := P.ofO
  obtain ⟨v, e1, R2⟩ := R.dup e h2
  exact ⟨v, e1, q v H R2⟩
theorem con_e {v : V} {d : D} {a : E} {x : Expr} (h : PE X x (tC v)) (ev : ∀ σ, evE U a σ = .ok d σ) (r : ∀ H Z, Dt.Rd H Z v d) : PE X x (tD md .F W (evE U a)) := by
  refine PE.imp h fun σ H Q ⟨en, ts, R, P⟩ => ?_
  rw [ev] at P
  exact P v H (R.flat fun Z => r H Z)
theorem op_e {o : Op} {fr : Bool} {as : E} {x : Expr} {m : Md} (hl : Snd U as) (O : XOk C U X) (h : kOp C o fr x (chkL md as) = some m) : m = rmO fr ∧ PE X x (tD md (rmO fr) W (evE U (.op o fr as))) := by
  unfold kOp at h
  split at h
  case h_2 => cases h
  rename_i es e1
  split at h
  case h_2 => cases h
  rename_i ms e2
  split at h
  case isFalse => cases h
  rename_i fl
  cases h
  obtain ⟨r, od, k⟩ := op_ok O e1
  obtain ⟨tes, T, imp, _⟩ := hl.l (W := W) O e2
  exact ⟨rfl, PE.imp (k tes T) fun σ H Q w => op_snd od fl imp σ H Q w⟩
theorem call_e {f : Nat} {as : E} {x : Expr} {m : Md} (hl : Snd U as) (O : XOk C U X) (h : kCall C f as x (chkL md as) = some m) : PE X x (tD md m W (evE U (.call f as))) := by
  unfold kCall at h
  split at h
  case h_2 => cases h
  rename_i y p0 es p1
  split at h
  case h_2 => cases h
  rename_i d e1
  split at h
  case isFalse => cases h
  rename_i hq
  simp only [Bool.and_eq_true, decide_eq_true_eq] at hq
  obtain ⟨⟨⟨⟨k1, k2⟩, k3⟩, k4⟩, k5⟩ := hq
  split at h
  case h_2 => cases h
  rename_i ms e2
  split at h
  case isFalse => cases h
  rename_i ha
  cases h
  obtain ⟨tes, T, imp, hel⟩ := hl.l (W := W) O e2
  exact call_pe O e1 k1 k2 k3 k4 hel ha k5 T imp
theorem tail_e {op : BoolOp} {y0 : Expr} {r : List Expr} {p : Pos} {t : TE} (h : PE X (tailB op y0 r p) t) : PE X (.BoolOp op (y0 :: r) p) t := by
  cases r with
  | nil => exact pe_one h
  | cons z zs => exact h
theorem kAnd_ {op : BoolOp} {x : Expr} {a b : KE} {m : Md} (h : kAnd C op x a b = some m) : m = .F ∧ ∃ x0 y0 r p, x = .BoolOp op (x0 :: y0 :: r) p ∧ a C x0 = some .F ∧ b C (tailB op y0 r p) = some .F := by
  unfold kAnd at h
  split at h
  case h_2 => cases h
  rename_i x0 y e1
  split at h
  case isFalse => cases h
  rename_i hq
  cases h
  obtain ⟨y0, r, p, rfl, rfl⟩ := andOf_ e1
  exact ⟨rfl, _, _, _, _, rfl, hq.1, hq.2⟩
theorem and_e {a b : E} {x : Expr} {m : Md} (ha : Snd U a) (hb : Snd U b) (O : XOk C U X) (h : kAnd C .And x (chkE md a) (chkE md b) = some m) : m = .F ∧ PE X x (tD md .F W (evE U (.and a b))) := by
  obtain ⟨rfl, x0, y0, r, p, rfl, h1, h2⟩ := kAnd_ h
  refine ⟨rfl, PE.imp (pe_and (ha.e (W := W) O h1) (tail_e (hb.e (W := W) O h2))) fun σ H Q ⟨en, ts, R, P⟩ => ⟨en, ts, R, ?_⟩⟩
  rw [evE] at P
  refine P.bind.mono fun d en' _ P2 v H' R' => ?_
  split at P2
  · cases R'.boolV
    exact ⟨true, rfl, en', ts, R'.tail, P2⟩
  · cases R'.boolV
    exact ⟨false, rfl, P2 _ _ R'⟩
  · exact P2.elim
theorem or_e {a b : E} {x : Expr} {m : Md} (ha : Snd U a) (hb : Snd U b) (O : XOk C U X) (h : kAnd C .Or x (chkE md a) (chkE md b) = some m) : m = .F ∧ PE X x (tD md .F W (evE U (.or a b))) := by
  obtain ⟨rfl, x0, y0, r, p, rfl, h1, h2⟩ := kAnd_ h
  refine ⟨rfl, PE.imp (pe_or (ha.e (W := W) O h1) (tail_e (hb.e (W := W) O h2))) fun σ H Q ⟨en, ts, R, P⟩ => ⟨en, ts, R, ?_⟩⟩
  rw [evE] at P
  refine P.bind.mono fun d en' _ P2 v H' R' => ?_
  split at P2
  · cases R'.boolV
    exact ⟨true, rfl, P2 _ _ R'⟩
  · cases R'.boolV
    exact ⟨false, rfl, en', ts, R'.tail, P2⟩
  · exact P2.elim
theorem not_e {a : E} {x : Expr} {m : Md} (ha : Snd U a) (O : XOk C U X) (h : kNot C x (chkE md a) = some m) : m = .F ∧ PE X x (tD md .F W (evE U (.not a))) := by
  unfold kNot at h
  split at h
  case h_2 => cases h
  split at h
  case isFalse => cases h
  rename_i x0 p h1
  cases h
  refine ⟨rfl, PE.imp (pe_not (ha.e (W := W) O h1)) fun σ H Q ⟨en, ts, R, P⟩ => ⟨en, ts, R, ?_⟩⟩
  rw [evE] at P
  refine P.bind.mono fun d en' _ P2 v H' R' => ?_
  split at P2
  · cases R'.boolV
    exact ⟨_, rfl, P2 _ _ (R'.tail.flat fun Z => .bl _)⟩
  · exact P2.elim
theorem ite_e {t a b : E} {x : Expr} {m : Md} (ht : Snd U t) (ha : Snd U a) (hb : Snd U b) (O : XOk C U X) (h : kIte C x (chkT md t) (chkE md a) (chkE md b) = some m) : PE X x (tD md m W (evE U (.ite t a b))) := by
  unfold kIte at h
  split at h
  case h_2 => cases h
  rename_i c0 x0 y0 p
  split at h
  case isFalse => cases h
  rename_i h1
  split at h
  case h_2 => cases h
  rename_i m1 m2 e1 e2
  split at h
  case isFalse => cases h
  rename_i em
  subst em
  cases h
  refine PE.imp (pe_ifExp (ht.t (W := W) O h1).1 (ha.e (W := W) O e1) (hb.e (W := W) O e2)) fun σ H Q ⟨en, ts, R, P⟩ => ⟨en, ts, R, ?_⟩
  rw [show evE U (.ite t a b) en = (evT U t en).bind fun c σ => if c then evE U a σ else evE U b σ by rw [evE]] at P
  refine P.bind.mono fun c en' _ P2 H' R' => ?_
  cases c with
  | true => exact ⟨en', ts, R', P2⟩
  | false => exact ⟨en', ts, R', P2⟩
theorem tup_e {as : E} {x : Expr} {m : Md} (hl : Snd U as) (O : XOk C U X) (h : kTup C (noPk as) x (chkL md as) = some m) : m = .F ∧ PE X x (tD md .F W (evE U (.tup as))) := by
  unfold kTup at h
  split at h
  case h_2 => cases h
  split at h
  case h_2 => cases h
  rename_i es k p ms e1
  split at h
  case isFalse => cases h
  rename_i n
  cases h
  obtain ⟨tes, T, imp, _⟩ := hl.l (W := W) O e1
  exact ⟨rfl, PE.imp (pe_tupF T.pa) fun σ H Q w => tup_imp n imp σ H Q w⟩
theorem lst_e {as : E} {x : Expr} {m0 m : Md} (hl : Snd U as) (O : XOk C U X) (h : kLst C (noPk as) m0 x (chkL md as) = some m) : m = .O m0 ∧ PE X x (tD md (.O m0) W (evE U (.lst m0 as))) := by
  unfold kLst at h
  split at h
  case h_2 => cases h
  split at h
  case h_2 => cases h
  rename_i es p ms e1
  split at h
  case isFalse => cases h
  rename_i n
  obtain ⟨n, f⟩ := Bool.and_eq_true_iff.mp n
  cases h
  obtain ⟨tes, T, imp, _⟩ := hl.l (W := W) O e1
  exact ⟨rfl, PE.imp (pe_lst T.pa) fun σ H Q w => lst_imp n f imp σ H Q w⟩
theorem strKeys_len : ∀ {ks : List Str} {keys : List (Option Expr)}, strKeys ks keys = true → keys.length = ks.length
  | [], [], _ => rfl
  | [], _ :: _, h => by cases h
  | _ :: _, [], h => by cases h
  | k :: ks, k0 :: r, h => by
    cases k0 with
    | none => cases h
    | some e =>
      cases e with
      | Constant c _ _ =>
        cases c with
        | str x => rw [List.length_cons, List.length_cons, strKeys_len (Bool.and_eq_true_iff.mp h).2]
        | _ => cases h
      | _ => cases h
theorem dsp_e {as : E} {ks : List Str} {x : Expr} {m : Md} (hl : Snd U as) (O : XOk C U X) (h : kDsp C (noPk as) ks x (chkL md as) = some m) : m = .O .F ∧ PE X x (tD md (.O .F) W (evE U (.dsp ks as))) := by
  unfold kDsp at h
  split at h
  case h_2 => cases h
  rename_i keys vals p
  split at h
  case isFalse => cases h
  rename_i hq
  simp only [Bool.and_eq_true, decide_eq_true_eq, Bool.not_eq_true', List.isEmpty_eq_false_iff] at hq
  obtain ⟨⟨⟨⟨⟨k1, k2⟩, k3⟩, k4⟩, k5⟩, k6⟩ := hq
  split at h
  case h_2 => cases h
  rename_i ms e1
  cases h
  obtain ⟨tes, T, imp, _⟩ := hl.l (W := W) O e1
  obtain ⟨q1, q2, q3⟩ := pps_of (pos := p) T k1 k2
  have len1 : keys.length = ks.length := strKeys_len k1
  have ne : keys ≠ [] := fun e => by
    rw [e] at len1
    exact k5 (List.eq_nil_of_length_eq_zero len1.symm)
  exact ⟨rfl, PE.imp (pe_disp q1 q2 k2 ne (by omega)) fun σ H Q w => dsp_imp T k6 k3 k4 q3 imp σ H Q w⟩
theorem kMut_ {nm : Str} {g : Md → Md} {i : Nat} {n : Bool} {x : Expr} {l : KL} {m : Md} (h : kMut C md nm g i n x l = some m) : m = .F ∧ ∃ y b m0 ms, nameAttr nm x = some (y, b) ∧ md[i]? = some (.O m0) ∧ okN C i y = true ∧ n = true ∧ l C [b] = some ms ∧ fits (g m0) ms = true := by
  unfold kMut at h
  split at h
  case h_2 => cases h
  rename_i y b m0 e1 e2
  split at h
  case isFalse => cases h
  rename_i hq
  split at h
  case h_2 => cases h
  rename_i ms e3
  split at h
  case isFalse => cases h
  rename_i hf
  cases h
  refine ⟨rfl, y, b, m0, ms, e1, ?_, (Bool.and_eq_true_iff.mp hq).1, (Bool.and_eq_true_iff.mp hq).2, e3, hf⟩
  unfold oM at e2
  split at e2
  · cases e2; assumption
  · cases e2
theorem one_of_l {as : E} {b : Expr} {ms : List Md} (h : chkL md as C [b] = some ms) : ∃ a, as = .cons a .nil := by
  cases as with
  | cons a r =>
    rw [chkL] at h
    unfold lCons at h
    simp only at h
    split at h
    case isFalse => cases h
    split at h
    case h_2 => cases h
    rename_i e2
    cases r with
    | nil => exact ⟨a, rfl⟩
    | cons _ _ => rw [chkL] at e2; cases e2
    | _ => rw [chkL] at e2 <;> first | cases e2 | (intros; rename_i q; cases q)
  | nil => rw [chkL] at h; cases h
  | _ => rw [chkL] at h <;> first | cases h | (intros; rename_i q; cases q)
theorem append_e {i : Nat} {as : E} {x : Expr} {m : Md} (hl : Snd U as) (O : XOk C U X) (h : kMut C md "append" (fun m => m) i (noPk as) x (chkL md as) = some m) : m = .F ∧ PE X x (tD md .F W (evE U (.mut .append i as))) := by
  obtain ⟨rfl, y, b, m0, ms, e1, e2, e3, n, e4, f⟩ := kMut_ h
  obtain ⟨a, rfl⟩ := one_of_l e4
  obtain ⟨p, apos, cpos, rfl, hline⟩ := nameAttr_ e1
  obtain ⟨tes, T, imp, _⟩ := hl.l (W := W) O e4
  exact ⟨rfl, PE.imp (meth_pe PySem.F.plainAttrs_list PySem.F.slot_list_append PySem.F.type_list_append mt_append O e3 hline T) fun σ H Q w => mut_imp e2 imp (append_step e2 n f) σ H Q w⟩
theorem extend_e {i : Nat} {as : E} {x : Expr} {m : Md} (hl : Snd U as) (O : XOk C U X) (h : kMut C md "extend" Md.O i (noPk as) x (chkL md as) = some m) : m = .F ∧ PE X x (tD md .F W (evE U (.mut .extend i as))) := by
  obtain ⟨rfl, y, b, m0, ms, e1, e2, e3, n, e4, f⟩ := kMut_ h
  obtain ⟨a, rfl⟩ := one_of_l e4
  obtain ⟨p, apos, cpos, rfl, hline⟩ := nameAttr_ e1
  obtain ⟨tes, T, imp, _⟩ := hl.l (W := W) O e4
  exact ⟨rfl, PE.imp (meth_pe PySem.F.plainAttrs_list PySem.F.slot_list_extend PySem.F.type_list_extend mt_extend O e3 hline T) fun σ H Q w => mut_imp e2 imp (extend_step e2 n f) σ H Q w⟩
/-! ### tests -/
theorem tail_w {op : BoolOp} {y0 : Expr} {r : List Expr} {p : Pos} {t : TT} (h : PT X (tailB op y0 r p) t ∧ (isBO (tailB op y0 r p) = true → PW X (tailB op y0 r p) t)) : PW X (.BoolOp op (y0 :: r) p) t := by
  cases r with
  | nil => cases op with
    | And => exact pw_and1 h.1
    | Or => exact pw_or1 h.1
  | cons z zs => exact h.2 rfl
theorem tAnd_ {op : BoolOp} {x : Expr} {a b : KT} (h : Dt.tAnd C op x a b = true) : ∃ x0 y0 r p, x = .BoolOp op (x0 :: y0 :: r) p ∧ a C x0 = true ∧ b C (tailB op y0 r p) = true := by
  unfold Dt.tAnd at h
  split at h
  case h_2 => cases h
  rename_i x0 y e1
  obtain ⟨h1, h2⟩ := Bool.and_eq_true_iff.mp h
  obtain ⟨y0, r, p, rfl, rfl⟩ := andOf_ e1
  exact ⟨_, _, _, _, rfl, h1, h2⟩
theorem and_t {a b : E} {x : Expr} (ha : Snd U a) (hb : Snd U b) (O : XOk C U X) (h : Dt.tAnd C .And x (chkT md a) (chkT md b) = true) : PW X x (tDT md W (evT U (.and a b))) := by
  obtain ⟨x0, y0, r, p, rfl, h1, h2⟩ := tAnd_ h
  refine PW.imp (pw_and (ha.t (W := W) O h1).1 (tail_w (hb.t (W := W) O h2))) fun σ H Q ⟨en, ts, R, P⟩ => ⟨en, ts, R, ?_⟩
  rw [show evT U (.and a b) en = (evT U a en).bind fun c σ => if c then evT U b σ else .ok false σ by rw [evT]] at P
  refine P.bind.mono fun c en' _ P2 H' R' => ?_
  cases c with
  | true => exact ⟨en', ts, R', P2⟩
  | false => exact P2 _ R'
theorem or_t {a b : E} {x : Expr} (ha : Snd U a) (hb : Snd U b) (O : XOk C U X) (h : Dt.tAnd C .Or x (chkT md a) (chkT md b) = true) : PW X x (tDT md W (evT U (.or a b))) := by
  obtain ⟨x0, y0, r, p, rfl, h1, h2⟩ := tAnd_ h
  refine PW.imp (pw_or (ha.t (W := W) O h1).1 (tail_w (hb.t (W := W) O h2))) fun σ H Q ⟨en, ts, R, P⟩ => ⟨en, ts, R, ?_⟩
  rw [show evT U (.or a b) en = (evT U a en).bind fun c σ => if c then .ok true σ else evT U b σ by rw [evT]] at P
  refine P.bind.mono fun c en' _ P2 H' R' => ?_
  cases c with
  | true => exact P2 _ R'
  | false => exact ⟨en', ts, R', P2⟩
theorem not_t {a : E} {x : Expr} (ha : Snd U a) (O : XOk C U X) (h : Dt.tNot C x (chkT md a) = true) : PT X x (tDT md W (evT U (.not a))) ∧ isBO x = false := by
  unfold Dt.tNot at h
  split at h
  case h_2 => cases h
  refine ⟨PT.imp (pt_not (ha.t (W := W) O h).1) fun σ H Q ⟨en, ts, R, P⟩ => ⟨en, ts, R, ?_⟩, rfl⟩
  rw [show evT U (.not a) en = (evT U a en).bind fun c σ => .ok (!c) σ by rw [evT]] at P
  exact P.bind.mono fun c en' _ P2 H' R' => P2 _ R'
theorem plain_bo {x : Expr} (h : plainT x = true) : isBO x = false := by
  cases x <;> first | rfl | cases h
theorem tFlat_ {o : Option Md} (h : tFlat o = true) : ∃ m, o = some m ∧ flatM m = true := by
  cases o with
  | none => cases h
  | some m => exact ⟨m, rfl, h⟩
theorem op_t {o : Op} {fr : Bool} {as : E} {x : Expr} (hl : Snd U as) (O : XOk C U X) (h : Dt.tOp C o fr x (chkL md as) = true) : PT X x (tDT md W (evT U (.op o fr as))) ∧ isBO x = false := by
  unfold Dt.tOp at h
  split at h
  · rename_i hc
    simp only [Bool.and_eq_true, Bool.not_eq_true'] at h
    obtain ⟨⟨rfl, h2⟩, h3⟩ := h
    obtain ⟨m, h2⟩ := Option.isSome_iff_exists.mp h2
    unfold kOp at h2
    split at h2
    case h_2 => cases h2
    rename_i es e1
    split at h2
    case h_2 => cases h2
    rename_i ms e2
    split at h2
    case isFalse => cases h2
    rename_i fl
    obtain ⟨tes, T, imp, _⟩ := hl.l (W := W) O e2
    exact ⟨cmp_test O e1 hc fl T imp, h3⟩
  · obtain ⟨h1, h2⟩ := Bool.and_eq_true_iff.mp h
    obtain ⟨m, h2⟩ := Option.isSome_iff_exists.mp h2
    obtain ⟨rfl, pe⟩ := op_e (W := W) hl O h2
    exact ⟨t_gen pe (by cases fr <;> rfl) h1 (evT_gen rfl), plain_bo h1⟩
/-! ### lists -/
theorem cons_l {a r : E} {es : List Expr} {ms : List Md} (ha : Snd U a) (hr : Snd U r) (O : XOk C U X) (h : lCons C md (pkI a) es (chkE md a) (chkL md r) = some ms) :
    ∃ tes, PEs X es tes ∧ (∀ σ H Q, tDL md W (evL U (.cons a r)) (.cons a r) ms σ H Q → chain tes σ H Q) ∧ ∀ σ en vs ds tr, Ops md σ en (.cons a r) vs ds ms tr → ds.length = es.length := by
  unfold lCons at h
  split at h
  case h_2 => cases h
  rename_i x xs
  split at h
  case isFalse => cases h
  rename_i ns
  split at h
  case h_2 => cases h
  rename_i m ms' e1 e2
  cases h
  obtain ⟨tes, T, imp, hel⟩ := hr.l (W := W) O e2
  have hlen : ∀ σ en vs ds tr, Ops md σ en (.cons a r) vs ds (m :: ms') tr → ds.length = (x :: xs).length := by
    intro σ en vs ds tr o
    cases o with
    | pk _ _ _ o => rw [List.length_cons, List.length_cons, hel _ _ _ _ _ o]
    | lnt _ _ _ o => rw [List.length_cons, List.length_cons, hel _ _ _ _ _ o]
    | tmp _ o => rw [List.length_cons, List.length_cons, hel _ _ _ _ _ o]
  cases hp : pkI a with
  | some i =>
    rw [hp] at e1
    simp only at e1
    unfold chkPk at e1
    split at e1
    case h_2 => cases e1
    split at e1
    case isFalse => cases e1
    rename_i y p ok
    obtain ⟨k1, k2, k3, k4⟩ := okN_ O ok
    refine ⟨tVar i :: tes, .cons ns mo_tVar (pe_var k1 k2 k3 k4) T, fun σ H Q ⟨en, ts, R, P⟩ => ?_, hlen⟩
    have hev : evL U (.cons a r) en = if (rdS en i).isSome then (evL U r en).bind fun ds σ => (ofO (rdS σ i) σ).bind fun d σ => .ok (d :: ds) σ else .bad := by
      cases a <;> first | (cases hp; rw [evL]) | exact nomatch (show none = some i from hp)
    rw [hev] at P
    by_cases hs : (rdS en i).isSome = true
    case neg => rw [if_neg hs] at P; exact P.elim
    rw [if_pos hs] at P
    obtain ⟨d0, e0⟩ := Option.isSome_iff_exists.mp hs
    obtain ⟨v, m', rs, q1, _⟩ := R.get e0
    refine ⟨v, q1, imp σ H _ ⟨en, ts, R, P.bind.mono fun ds en' _ P2 vs H' tr R' o => ?_⟩⟩
    obtain ⟨d, e3, P3⟩ := P2.bind.ofO
    refine P3 _ H' tr R' ?_
    cases a <;> first | (cases hp; first | exact .pk q1 e3 e1 o | exact .lnt q1 e3 e1 o) | exact nomatch (show none = some i from hp)
  | none =>
    rw [hp] at e1
    simp only at e1
    refine ⟨_ :: tes, .cons ns mo_tD (ha.e (W := W) O e1) T, fun σ H Q ⟨en, ts, R, P⟩ => ⟨en, ts, R, ?_⟩, hlen⟩
    rw [evL_cons hp] at P
    refine P.bind.mono fun d en' _ P2 v H' R' => ?_
    refine imp σ H' _ ⟨en', (v, d, m) :: ts, R', (Post.more [(v, d, m)] P2.bind).mono fun ds en2 _ P3 vs H2 tr R2 o => ?_⟩
    exact P3 (v :: vs) H2 ((v, d, m) :: tr) (R2.permT perm_mid) (.tmp (pkI_no hp) o)
end
/-- the checker is sound -/
theorem snd (U : Ev) (a : E) : Snd U a := by
  have nT : ∀ {md : List Md} {a : E} {C : Ck} {x : Expr} {p : Prop}, chkT md a C x = false → chkT md a C x = true → p := fun h k => by rw [h] at k; cases k
  induction a with
  | var i =>
    refine ⟨fun O h => ?_, fun {C X md W x} O h => ?_, fun O h => ?_⟩
    · rw [chkE] at h
      obtain ⟨rfl, q⟩ := var_e O h
      exact q
    · rw [chkT] at h
      obtain ⟨h1, h2⟩ := Bool.and_eq_true_iff.mp h
      obtain ⟨m, h3, f⟩ := tFlat_ h2
      obtain ⟨rfl, q⟩ := var_e (W := W) O h3
      exact ⟨t_gen q f h1 (evT_gen rfl), fun z => nomatch (plain_bo h1).symm.trans z⟩
    · rw [chkL] at h <;> first | cases h | (intros; rename_i q; cases q)
  | bl b =>
    have pe : ∀ {C : Ck} {X : Cx} {md : List Md} {W : WX} {x : Expr} {m : Md}, kBl b x = some m → m = .F ∧ PE X x (tD md .F W (evE U (.bl b))) := fun {C X md W x m} h => by
      unfold kBl at h
      split at h
      case h_2 => cases h
      split at h
      case isFalse => cases h
      rename_i e
      subst e
      cases h
      exact ⟨rfl, con_e pe_bl (fun σ => by rw [evE]) fun H Z => .bl _⟩
    refine ⟨fun {C X md W x m} O h => ?_, fun {C X md W x} O h => ?_, fun O h => ?_⟩
    · rw [chkE] at h
      obtain ⟨rfl, q⟩ := pe (C := C) (X := X) (md := md) (W := W) h
      exact q
    · rw [chkT] at h
      obtain ⟨h1, h2⟩ := Bool.and_eq_true_iff.mp h
      obtain ⟨m, h3, f⟩ := tFlat_ h2
      obtain ⟨rfl, q⟩ := pe (C := C) (X := X) (md := md) (W := W) h3
      exact ⟨t_gen q f h1 (evT_gen rfl), fun z => nomatch (plain_bo h1).symm.trans z⟩
    · rw [chkL] at h <;> first | cases h | (intros; rename_i q; cases q)
  | non =>
    refine ⟨fun O h => ?_, fun O h => ?_, fun O h => ?_⟩
    · rw [chkE] at h
      unfold kNon at h
      split at h
      · cases h
        exact con_e pe_non (fun σ => by rw [evE]) fun H Z => .non
      · cases h
    · rw [chkT] at h <;> first | cases h | (intros; rename_i q; cases q)
    · rw [chkL] at h <;> first | cases h | (intros; rename_i q; cases q)
  | int i =>
    refine ⟨fun O h => ?_, fun O h => ?_, fun O h => ?_⟩
    · rw [chkE] at h
      unfold kInt at h
      split at h
      · split at h
        · rename_i e
          subst e
          cases h
          exact con_e pe_int (fun σ => by rw [evE]) fun H Z => .int _
        · cases h
      · cases h
    · rw [chkT] at h <;> first | cases h | (intros; rename_i q; cases q)
    · rw [chkL] at h <;> first | cases h | (intros; rename_i q; cases q)
  | str s =>
    refine ⟨fun O h => ?_, fun O h => ?_, fun O h => ?_⟩
    · rw [chkE] at h
      unfold kStr at h
      split at h
      · split at h
        · rename_i e
          subst e
          cases h
          exact con_e pe_str (fun σ => by rw [evE]) fun H Z => .str _
        · cases h
      · cases h
    · rw [chkT] at h <;> first | cases h | (intros; rename_i q; cases q)
    · rw [chkL] at h <;> first | cases h | (intros; rename_i q; cases q)
  | op o fr as ih =>
    refine ⟨fun O h => ?_, fun {C X md W x} O h => ?_, fun O h => ?_⟩
    · rw [chkE] at h
      obtain ⟨rfl, q⟩ := op_e ih O h
      exact q
    · rw [chkT] at h
      obtain ⟨q, b⟩ := op_t (W := W) ih O h
      exact ⟨q, fun z => nomatch b.symm.trans z⟩
    · rw [chkL] at h <;> first | cases h | (intros; rename_i q; cases q)
  | and a b iha ihb =>
    refine ⟨fun O h => ?_, fun {C X md W x} O h => ?_, fun O h => ?_⟩
    · rw [chkE] at h
      obtain ⟨rfl, q⟩ := and_e iha ihb O h
      exact q
    · rw [chkT] at h
      have q := and_t (W := W) iha ihb O h
      exact ⟨q.pt, fun _ => q⟩
    · rw [chkL] at h <;> first | cases h | (intros; rename_i q; cases q)
  | or a b iha ihb =>
    refine ⟨fun O h => ?_, fun {C X md W x} O h => ?_, fun O h => ?_⟩
    · rw [chkE] at h
      obtain ⟨rfl, q⟩ := or_e iha ihb O h
      exact q
    · rw [chkT] at h
      have q := or_t (W := W) iha ihb O h
      exact ⟨q.pt, fun _ => q⟩
    · rw [chkL] at h <;> first | cases h | (intros; rename_i q; cases q)
  | not a iha =>
    refine ⟨fun O h => ?_, fun {C X md W x} O h => ?_, fun O h => ?_⟩
    · rw [chkE] at h
      obtain ⟨rfl, q⟩ := not_e iha O h
      exact q
    · rw [chkT] at h
      obtain ⟨q, b⟩ := not_t (W := W) iha O h
      exact ⟨q, fun z => nomatch b.symm.trans z⟩
    · rw [chkL] at h <;> first | cases h | (intros; rename_i q; cases q)
  | ite t a b iht iha ihb =>
    refine ⟨fun O h => ?_, fun O h => ?_, fun O h => ?_⟩
    · rw [chkE] at h
      exact ite_e iht iha ihb O h
    · rw [chkT] at h <;> first | cases h | (intros; rename_i q; cases q)
    · rw [chkL] at h <;> first | cases h | (intros; rename_i q; cases q)
  | tup as ih =>
    refine ⟨fun O h => ?_, fun O h => ?_, fun O h => ?_⟩
    · rw [chkE] at h
      obtain ⟨rfl, q⟩ := tup_e ih O h
      exact q
    · rw [chkT] at h <;> first | cases h | (intros; rename_i q; cases q)
    · rw [chkL] at h <;> first | cases h | (intros; rename_i q; cases q)
  | lst m as ih =>
    refine ⟨fun O h => ?_, fun O h => ?_, fun O h => ?_⟩
    · rw [chkE] at h
      obtain ⟨rfl, q⟩ := lst_e ih O h
      exact q
    · rw [chkT] at h <;> first | cases h | (intros; rename_i q; cases q)
    · rw [chkL] at h <;> first | cases h | (intros; rename_i q; cases q)
  | dsp ks as ih =>
    refine ⟨fun O h => ?_, fun O h => ?_, fun O h => ?_⟩
    · rw [chkE] at h
      obtain ⟨rfl, q⟩ := dsp_e ih O h
      exact q
    · rw [chkT] at h <;> first | cases h | (intros; rename_i q; cases q)
    · rw [chkL] at h <;> first | cases h | (intros; rename_i q; cases q)
  | call f as ih =>
    refine ⟨fun O h => ?_, fun {C X md W x} O h => ?_, fun O h => ?_⟩
    · rw [chkE] at h
      exact call_e ih O h
    · rw [chkT] at h
      obtain ⟨h1, h2⟩ := Bool.and_eq_true_iff.mp h
      obtain ⟨m, h3, f⟩ := tFlat_ h2
      exact ⟨t_gen (call_e (W := W) ih O h3) f h1 (evT_gen rfl), fun z => nomatch (plain_bo h1).symm.trans z⟩
    · rw [chkL] at h <;> first | cases h | (intros; rename_i q; cases q)
  | «mut» o i as ih =>
    refine ⟨fun O h => ?_, fun O h => ?_, fun O h => ?_⟩
    · cases o with
      | append =>
        rw [chkE] at h
        obtain ⟨rfl, q⟩ := append_e ih O h
        exact q
      | extend =>
        rw [chkE] at h
        obtain ⟨rfl, q⟩ := extend_e ih O h
        exact q
      | pop =>
        rw [chkE] at h
        exact pop_e O h
      | popAt =>
        rw [chkE] at h
        exact popAt_e ih O h one_of_l
      | _ => rw [chkE] at h <;> first | cases h | (intros; rename_i q; cases q)
    · rw [chkT] at h <;> first | cases h | (intros; rename_i q; cases q)
    · rw [chkL] at h <;> first | cases h | (intros; rename_i q; cases q)
  | lc own tg ik it c m b ihit ihc ihb =>
    refine ⟨fun O h => ?_, fun O h => ?_, fun O h => ?_⟩
    · obtain ⟨rfl, q, _⟩ := lc_rules ihit ihc ihb O h
      exact q
    · rw [chkT] at h <;> first | cases h | (intros; rename_i q; cases q)
    · rw [chkL] at h <;> first | cases h | (intros; rename_i q; cases q)
  | lc2 own tg ik it c own1 tg1 ik1 it1 c1 m b ihit ihc ihit1 ihc1 ihb =>
    refine ⟨fun O h => ?_, fun O h => ?_, fun O h => ?_⟩
    · obtain ⟨rfl, q, _⟩ := lc2_rules ihit ihc ihit1 ihc1 ihb O h
      exact q
    · rw [chkT] at h <;> first | cases h | (intros; rename_i q; cases q)
    · rw [chkL] at h <;> first | cases h | (intros; rename_i q; cases q)
  | dc own tg ik it c k b ihit ihc ihk ihb =>
    refine ⟨fun O h => ?_, fun O h => ?_, fun O h => ?_⟩
    · obtain ⟨rfl, q⟩ := dc_rules ihit ihc ihk ihb O h
      exact q
    · rw [chkT] at h <;> first | cases h | (intros; rename_i q; cases q)
    · rw [chkL] at h <;> first | cases h | (intros; rename_i q; cases q)
  | chn o o' a b c iha ihb ihc =>
    refine ⟨fun O h => ?_, fun O h => ?_, fun O h => ?_⟩
    · rw [chkE] at h
      obtain ⟨rfl, q⟩ := chn_e iha ihb ihc O h
      exact q
    · rw [chkT] at h <;> first | cases h | (intros; rename_i q; cases q)
    · rw [chkL] at h <;> first | cases h | (intros; rename_i q; cases q)
  | meth o a as iha ih =>
    refine ⟨fun O h => ?_, fun O h => ?_, fun O h => ?_⟩
    · rw [chkE] at h
      obtain ⟨rfl, q⟩ := meth_e iha ih O h
      exact q
    · rw [chkT] at h <;> first | cases h | (intros; rename_i q; cases q)
    · rw [chkL] at h <;> first | cases h | (intros; rename_i q; cases q)
  | nil =>
    refine ⟨fun O h => ?_, fun O h => ?_, fun {C X md W es ms} O h => ?_⟩
    · rw [chkE] at h <;> first | cases h | (intros; rename_i q; cases q)
    · rw [chkT] at h <;> first | cases h | (intros; rename_i q; cases q)
    · rw [chkL] at h
      unfold lNil at h
      split at h
      · cases h
        refine ⟨[], .nil, fun σ H Q ⟨en, ts, R, P⟩ => ?_, fun σ en vs ds tr o => by cases o; rfl⟩
        rw [show evL U .nil en = .ok [] en by rw [evL]] at P
        exact P [] H [] R .nil
      · cases h
  | cons a r iha ihr =>
    refine ⟨fun O h => ?_, fun O h => ?_, fun O h => ?_⟩
    · rw [chkE] at h <;> first | cases h | (intros; rename_i q; cases q)
    · rw [chkT] at h <;> first | cases h | (intros; rename_i q; cases q)
    · rw [chkL] at h
      exact cons_l iha ihr O h
  | pk i =>
    refine ⟨fun O h => ?_, fun O h => ?_, fun O h => ?_⟩
    · rw [chkE] at h <;> first | cases h | (intros; rename_i q; cases q)
    · rw [chkT] at h <;> first | cases h | (intros; rename_i q; cases q)
    · rw [chkL] at h <;> first | cases h | (intros; rename_i q; cases q)
  | lnt i =>
    refine ⟨fun O h => ?_, fun O h => ?_, fun O h => ?_⟩
    · rw [chkE] at h <;> first | cases h | (intros; rename_i q; cases q)
    · rw [chkT] at h <;> first | cases h | (intros; rename_i q; cases q)
    · rw [chkL] at h <;> first | cases h | (intros; rename_i q; cases q)
  | dnew t =>
    refine ⟨fun O h => ?_, fun O h => ?_, fun O h => ?_⟩
    · rw [chkE] at h <;> first | cases h | (intros; rename_i q; cases q)
    · rw [chkT] at h <;> first | cases h | (intros; rename_i q; cases q)
    · rw [chkL] at h <;> first | cases h | (intros; rename_i q; cases q)
  | mutI o i k as ihk ih =>
    refine ⟨fun O h => ?_, fun O h => ?_, fun O h => ?_⟩
    · rw [chkE] at h <;> first | cases h | (intros; rename_i q; cases q)
    · rw [chkT] at h <;> first | cases h | (intros; rename_i q; cases q)
    · rw [chkL] at h <;> first | cases h | (intros; rename_i q; cases q)
  | fld i k =>
    refine ⟨fun O h => ?_, fun O h => ?_, fun O h => ?_⟩
    · rw [chkE] at h <;> first | cases h | (intros; rename_i q; cases q)
    · rw [chkT] at h <;> first | cases h | (intros; rename_i q; cases q)
    · rw [chkL] at h <;> first | cases h | (intros; rename_i q; cases q)
end Dt
end
section
set_option Elab.async false
set_option linter.all false
set_option maxRecDepth 100000
set_option maxHeartbeats 4000000
/-! Statements: readings and small rules. -/
namespace Dt
open PySem PySem.Spec PyProof.Rows L2
def Keep (kp : List Nat) (σ σ' : L2.St) : Prop := ∀ j ∈ kp, σ'[j]? = σ[j]?
theorem Keep.refl {kp : List Nat} {σ : L2.St} : Keep kp σ σ := fun _ _ => rfl
theorem Keep.trans {kp : List Nat} {σ σ' σ'' : L2.St} (h : Keep kp σ σ') (k : Keep kp σ' σ'') : Keep kp σ σ'' := fun j m => (k j m).trans (h j m)
theorem Keep.agr {kp js : List Nat} {σ σ' : L2.St} (h : Agr js σ σ') (n : ∀ j ∈ kp, j ∉ js) : Keep kp σ σ' := fun j m => h.2 j (n j m)
/-- what a body's place fixes -/
structure Bx where
  rm : Md
  kp : List Nat
  md0 : List Md
  lp : Option (List Md)
def KeepM (B : Bx) (md : List Md) : Prop := ∀ j ∈ B.kp, md[j]? = B.md0[j]?
def PostS (B : Bx) (D0 : Ends) (σ : L2.St) (ts : List Root) (nxm : Option (List Md)) (x : SOut) : Prop := match x with
  | .nx en => (match nxm with
    | some md => ∀ σ' H', Keep B.kp σ σ' → RepS md σ' en ts H' → D0.nx σ' H'
    | none => True)
  | .ret d en => ∀ v σ' H' md, Keep B.kp σ σ' → KeepM B md → RepS md σ' en ((v, d, B.rm) :: ts) H' → D0.rt v H'
  | .brk en => ∃ l, B.lp = some l ∧ ∀ σ' H', Keep B.kp σ σ' → RepS l σ' en ts H' → D0.bk σ' H'
  | .cnt en => ∃ l, B.lp = some l ∧ ∀ σ' H', Keep B.kp σ σ' → RepS l σ' en ts H' → D0.ct σ' H'
  | .exc _ _ _ => False
  | .bad => False
def tS (B : Bx) (md : List Md) (nxm : Option (List Md)) (m : Sl → SOut) : TS := fun D0 σ H => ∃ en ts, RepS md σ en ts H ∧ PostS B D0 σ ts nxm (m en)
section
variable {B : Bx} {D0 : Ends} {σ σ' : L2.St} {ts : List Root} {nxm : Option (List Md)} {x : SOut}
theorem PostS.keep (k : Keep B.kp σ σ') (h : PostS B D0 σ ts nxm x) : PostS B D0 σ' ts nxm x := by
  cases x with
  | nx en =>
    cases nxm with
    | none => trivial
    | some md => exact fun σ2 H2 k2 r => h σ2 H2 (k.trans k2) r
  | ret d en => exact fun v σ2 H2 md k2 m r => h v σ2 H2 md (k.trans k2) m r
  | brk en =>
    obtain ⟨l, e, q⟩ := h
    exact ⟨l, e, fun σ2 H2 k2 r => q σ2 H2 (k.trans k2) r⟩
  | cnt en =>
    obtain ⟨l, e, q⟩ := h
    exact ⟨l, e, fun σ2 H2 k2 r => q σ2 H2 (k.trans k2) r⟩
  | exc _ _ _ => exact h
  | bad => exact h
theorem PostS.ofE {α : Type} {md : List Md} {W : WX} {o : Out α} {f : α → Sl → SOut} (h : PostS B D0 σ ts nxm (SOut.ofE o f)) : Post md W σ ts o fun a en => PostS B D0 σ ts nxm (f a en) := by
  cases o with
  | ok a en => exact h
  | exc c fs en => exact h
  | bad => exact h
end
theorem ofE_bind {α β : Type} (x : Out α) (f : α → Sl → Out β) (g : β → Sl → SOut) : SOut.ofE (x.bind f) g = SOut.ofE x fun a σ => SOut.ofE (f a σ) g := by
  cases x <;> rfl
section
variable {C : Ck} {U : Ev} {X : Cx} {md : List Md} {B : Bx}
/-! ### stores -/
def notComp : Expr → Bool
  | .ListComp _ _ _ _ => false
  | .SetComp _ _ _ _ => false
  | .DictComp _ _ _ _ _ => false
  | _ => true
theorem sw_no {x : Expr} {t : Option Expr} {l : Nat} {env : Env} (h : notComp x = true) : swapsWith x t l env = pure false := by
  cases x <;> first | rfl | cases h
theorem sw_sub {x o i : Expr} {p : Pos} {l : Nat} {env : Env} : swapsWith x (some (.Subscript o i p)) l env = pure false := by
  cases x <;> rfl
/-- does a store swap? -/
def swB (C : Ck) (x : Expr) (y : Str) (py : Pos) : Bool := match x with
  | .ListComp _ _ scope p => (match C.sc.kind with | .function => true | _ => false) && (match C.sc.names.lookup y with | some .local => true | _ => false) && py.line == p.line && !(scope.names.any fun q => q.1 == y && (q.2 == .local || q.2 == .cell))
  | _ => false
theorem sw_lc (O : XOk C U X) {elt : Expr} {gs : List Comprehension} {scope : Scope} {p py : Pos} {y : Str} {l : Nat} (hk : C.sc.kind = .function) : swapsWith (.ListComp elt gs scope p) (some (.Name y py)) l X.env = pure (swB C (.ListComp elt gs scope p) y py) := by
  have hb : X.env.blockKind = .function := by
    unfold Env.blockKind
    rw [O.sc, hk]
    rfl
  have ky : X.env.kindOf y = C.sc.names.lookup y := by
    show X.env.scope.names.lookup y = _
    rw [O.sc]
  unfold swapsWith swB
  simp only [hb, ky, hk, Expr.pos]
  cases C.sc.names.lookup y with
  | none => rfl
  | some k => cases k <;> rfl
/-- name = e, in one rule -/
theorem set_any (O : XOk C U X) {i : Nat} {y : Str} {py pos : Pos} {x : Expr} {t : TE} (hk : C.sc.kind = .function) (hn : okT C i y = true) (nc : notComp x = true ∨ ∃ elt gs scope p, x = .ListComp elt gs scope p) (pe : PE X x t) (so : (∃ elt gs scope p, x = .ListComp elt gs scope p) → SetOk X x t) :
    PS X (.Assign [.Name y py] x pos) (tAsg t (gName i)) := by
  obtain ⟨h1, h2⟩ := Bool.and_eq_true_iff.mp (show (decide (C.N[i]? = some y) && sto C y) = true from hn)
  have h1 : X.N[i]? = some y := by rw [O.N]; exact of_decide_eq_true h1
  obtain ⟨l, f⟩ := O.sto h2
  rcases nc with nc | ⟨elt, gs, scope, p, rfl⟩
  · exact ps_set O.nd h1 l pe (sw_no nc) f
  · have e := sw_lc O (elt := elt) (gs := gs) (scope := scope) (p := p) (py := py) (y := y) (l := pos.line) hk
    cases b : swB C (.ListComp elt gs scope p) y py with
    | false =>
      rw [b] at e
      exact ps_set O.nd h1 l pe e f
    | true =>
      rw [b] at e
      have lo : X.env.scope.names.lookup y = some .local := by
        rw [O.sc]
        unfold swB at b
        simp only [Bool.and_eq_true] at b
        have b := b.1.1.2
        split at b
        · assumption
        · cases b
      exact so ⟨_, _, _, _, rfl⟩ i y py pos h1 lo e
/-! ### stores into what a slot holds -/
def rSetA (K : PySem.W.Frag) : TSet := fun o i v H Q => rSetL o i v H Q ∨ rSetD o i v H Q
theorem set_both (hu : X.A.units + 1 < cLine) : PSet X (rSetA X.K) := by
  intro pins s σ H o i v ov iv u Q I ro ri rv q
  rcases q with q | q
  · exact set_list pins s σ H o i v ov iv u Q I ro ri rv q
  · exact set_dict hu pins s σ H o i v ov iv u Q I ro ri rv q
theorem slot_own {σ : L2.St} {en : Sl} {ts : List Root} {H : Hp} {i : Nat} {m : Md} {d : D} (R : RepS md σ en ts H) (e : rdS en i = some d) (hm : md[i]? = some (.O m)) : ∃ a rs', σ[i]? = some (some (.ref a)) ∧ Rep ((.ref a, d, .O m) :: (rs' ++ ts)) H ∧
    ∀ d' ts' H', Rep ((.ref a, d', .O m) :: (rs' ++ ts')) H' → RepS md σ (en.set i (some d')) ts' H' := by
  obtain ⟨v, m', rs', h1, h2, h3, h4⟩ := R.open e
  rw [hm] at h2
  cases h2
  obtain ⟨Z, fp, z⟩ := id h3
  cases id z.own with
  | cons w t =>
    obtain ⟨a, fs, rfl, _⟩ := w
    exact ⟨a, rs', h1, h3, h4⟩
theorem rep_dict {H : Hp} {a : Addr} {es : List (D × D)} {rs : List Root} {y : Key} (h : Rep ((.ref a, .dict es, .O .F) :: rs) H) (ok : kindOk es (.k y) = true) : ∃ kvs, H a = some (.dK kvs) ∧ kvs.length = es.length := by
  have h2 : Rep ((.non, .none, .F) :: (.ref a, .dict es, .O .F) :: rs) H := h.cons_rd fun Z => .non
  obtain ⟨kvs, e1, e2, _⟩ := rep_dput h2 ok
  exact ⟨kvs, e1, e2⟩
/-- what a store asks, by the meaning -/
theorem put_step {σ : L2.St} {en : Sl} {ts : List Root} {H : Hp} {i : Nat} {a : Addr} {kv y : V} {r0 kd d x r1 : D} {km : Md} {Q : Hp → Prop} (s1 : σ[i]? = some (some (.ref a))) (hm : md[i]? = some (.O .F)) (fk : flatM km = true)
    (R : RepS md σ en ((kv, kd, km) :: (y, d, .F) :: ts) H) (e : rdS en i = some r0) (h : mopF .set r0 [kd, d] = some (x, r1)) (q : ∀ H', RepS md σ (en.set i (some r1)) ts H' → Q H') : rSetA X.K (.ref a) kv y H Q := by
  have vk : ∃ Z, Vw H Z kv kd := R.vw fk
  obtain ⟨Z, vk⟩ := vk
  obtain ⟨a', rs', s2, raw, close⟩ := slot_own R.tail e hm
  rw [s1] at s2
  cases s2
  have raw2 : Rep ((y, d, .F) :: (.ref a, r0, .O .F) :: (rs' ++ ts)) H := raw.perm ((List.Perm.cons _ perm_mid).trans (.swap _ _ _))
  unfold mopF at h
  split at h <;> first | contradiction | skip
  · -- a list
    rename_i xs z d0 e1 e2
    cases e2
    obtain ⟨j, hj, h⟩ := Option.map_eq_some_iff.mp h
    cases h
    cases vw_int vk
    have hlt : ∃ dj, xs[j]? = some dj := by
      have : j < xs.length := (ixN_seq (show ixN xs.length z = some j from hj)).2.1
      exact ⟨xs[j], List.getElem?_eq_getElem this⟩
    obtain ⟨dj, hdj⟩ := hlt
    obtain ⟨us, vj, h1, h2, h3, h4⟩ := rep_setAt raw2 hdj
    exact .inl ⟨a, us, z, j, rfl, rfl, h1, by rw [h2]; exact hj, q _ (close _ _ _ h4)⟩
  · rename_i es k d0 e1 e2
    cases e2
    obtain ⟨kk, hk, h⟩ := Option.bind_eq_some_iff.mp h
    split at h
    case isFalse => cases h
    rename_i hz
    cases h
    obtain ⟨rfl, rfl⟩ := toK_v vk hk
    obtain ⟨kvs, h1, h2, h3⟩ := rep_dput raw2 hz.2
    exact .inr ⟨a, _, rfl, .k h1 (by rw [h2]; exact hz.1), q _ (close _ _ _ h3)⟩
/-- l[k] += n -/
def rGetA (K : PySem.W.Frag) : V → V → Hp → VK → Prop := fun o i H Q => ∃ p xs k v, o = .ref p ∧ i = .int k ∧ H p = some (.lst xs) ∧ atI xs k = some v ∧ Q v H
theorem get_lst : PGet X (rGetA X.K) := by
  intro pins s σ H o i ov iv Q I ro ri ⟨p, xs, k, z, e1, e2, hq, he, q⟩
  subst e1 e2
  cases ro
  obtain ⟨t, rfl⟩ := ri
  obtain ⟨its, n, r, ho, hz⟩ := I.lst hq
  obtain ⟨j, h1, h2, h3, h4, h5⟩ := atI_get he
  obtain ⟨w, ew, rw'⟩ := r.get h2
  have hl := r.length
  have hn := line63
  have pl : s.heap.IsList p its.toArray := ⟨_, ho, rfl, _, rfl⟩
  have fin : EP X pins σ Q w s := ⟨z, H, I, rw', q⟩
  by_cases h0 : 0 ≤ k
  · have hj : k.toNat = j := by
      rw [seqIndex_of h0 h5] at h1
      exact Option.some.inj h1
    exact wpAny_getItem_list pl h0 (by omega) (by rw [hj]; simpa using ew) fin
  · have hj : (k + (its.toArray.size : Int)).toNat = j := by
      rw [seqIndex_neg (by omega) h4] at h1
      rw [List.size_toArray, ← hl]
      exact Option.some.inj h1
    exact wpAny_getItem_list_neg pl (by omega) (by rw [List.size_toArray] <;> omega) (by omega) (by rw [hj]; simpa using ew) fin
end
end Dt
end
section
set_option Elab.async false
set_option linter.all false
set_option maxRecDepth 100000
set_option maxHeartbeats 4000000
/-! Statements: the checker. -/
namespace Dt
open PySem PySem.Spec PyProof.Rows L2
def fitTo (want : Option Md) (m : Md) : Bool := match want with
  | some .F => true
  | some w => decide (w = m)
  | none => false
def isFn (C : Ck) : Bool := match C.sc.kind with
  | .function => true
  | _ => false
def isLC : Expr → Bool
  | .ListComp _ _ _ _ => true
  | _ => false
def isLcE : E → Bool
  | .lc _ _ _ _ _ _ _ => true
  | .lc2 _ _ _ _ _ _ _ _ _ _ _ _ => true
  | _ => false
def notTup : Expr → Bool
  | .Tuple _ _ _ => false
  | _ => true
def isLoc (C : Ck) (x : Str) : Bool := match C.sc.names.lookup x with
  | some .local => true
  | _ => false
def isAtom : E → Bool
  | .int _ => true
  | .var _ => true
  | _ => false
abbrev R := Option (Option (List Md))
abbrev KB := Bx → Ck → List Md → List Stmt → R
def k1Set (B : Bx) (C : Ck) (md : List Md) (i : Nat) (lcE : Bool) (st : Stmt) (ke : KE) : R := match st with
  | .Assign [.Name y _] x _ => if okT C i y && decide (i ∉ B.kp) && isFn C && (notComp x || (lcE && isLC x)) then (match ke C x with
    | some m => if fitTo (md[i]?) m then some (some md) else none
    | none => none) else none
  | _ => none
def k1Par2 (B : Bx) (C : Ck) (md : List Md) (tg : Tg) (n : Bool) (st : Stmt) (kl : KL) : R := match tg, st with
  | .cons (.v i) (.cons (.v j) .nil), .Assign [.Tuple [.Name y1 p1, .Name y2 p2] _ _] (.Tuple [a, b] _ _) _ =>
    if decide (C.N[i]? = some y1) && decide (C.N[j]? = some y2) && decide (i ≠ j) && decide (y1 ≠ y2) && isLoc C y1 && isLoc C y2 && decide (i ∉ B.kp) && decide (j ∉ B.kp) && p2.line == p1.line && !([a, b].all (foldedForSure 8)) && !([a, b].all (constantsAlone 8)) && nostar a && nostar b && isFn C && n then (match kl C [a, b] with
      | some [m1, m2] => if fitTo (md[i]?) m1 && fitTo (md[j]?) m2 then some (some md) else none
      | _ => none) else none
  | _, _ => none
def k1Par3 (B : Bx) (C : Ck) (md : List Md) (tg : Tg) (n : Bool) (st : Stmt) (kl : KL) : R := match tg, st with
  | .cons (.v i) (.cons (.v j) (.cons (.v l) .nil)), .Assign [.Tuple [.Name y1 p1, .Name y2 p2, .Name y3 p3] _ _] (.Tuple [a, b, c] _ _) _ =>
    if decide (C.N[i]? = some y1) && decide (C.N[j]? = some y2) && decide (C.N[l]? = some y3) && decide (i ≠ j) && decide (i ≠ l) && decide (j ≠ l) && decide (y1 ≠ y2) && decide (y1 ≠ y3) && decide (y2 ≠ y3) && isLoc C y1 && isLoc C y2 && isLoc C y3 && decide (i ∉ B.kp) && decide (j ∉ B.kp) && decide (l ∉ B.kp) && p2.line == p1.line && p3.line == p1.line && !([a, b, c].all (foldedForSure 8)) && !([a, b, c].all (constantsAlone 8)) && nostar a && nostar b && nostar c && isFn C && n then (match kl C [a, b, c] with
      | some [m1, m2, m3] => if fitTo (md[i]?) m1 && fitTo (md[j]?) m2 && fitTo (md[l]?) m3 then some (some md) else none
      | _ => none) else none
  | _, _ => none
def k1Par (B : Bx) (C : Ck) (md : List Md) (tg : Tg) (n : Bool) (st : Stmt) (kl : KL) : R := match k1Par2 B C md tg n st kl with
  | some r => some r
  | none => k1Par3 B C md tg n st kl
/-- a target that no plain local is -/
def cellT (C : Ck) (e : Expr) : Bool := match e with
  | .Name y _ => !isLoc C y
  | _ => false
def k1Unp (B : Bx) (C : Ck) (md : List Md) (tg : Tg) (st : Stmt) (ke : KE) : R := match st with
  | .Assign [.Tuple es k p] x _ => if tgE C md tg (.Tuple es k p) && (tgs tg).all (fun j => decide (j ∉ B.kp)) && notComp x && (notTup x || es.any (cellT C)) && isFn C then (match ke C x with
    | some _ => some (some md)
    | none => none) else none
  | _ => none
def k1Put (C : Ck) (md : List Md) (i : Nat) (st : Stmt) (kk ke : KE) : R := match st with
  | .Assign [.Subscript (.Name y _) kx _] x _ => if okN C i y && decide (md[i]? = some (.O .F)) && noSl kx then (match ke C x, kk C kx with
    | some _, some mk => if flatM mk then some (some md) else none
    | _, _ => none) else none
  | _ => none
def k1Aug (C : Ck) (md : List Md) (i : Nat) (atm : Bool) (st : Stmt) (kk ke : KE) : R := match st with
  | .AugAssign (.Subscript (.Name y _) kx _) .Add x _ => if okN C i y && decide (md[i]? = some (.O .F)) && noSl kx && atm then (match kk C kx, ke C x with
    | some mk, some .F => if flatM mk then some (some md) else none
    | _, _ => none) else none
  | _ => none
def k1AugN (B : Bx) (C : Ck) (md : List Md) (i : Nat) (op : Operator) (st : Stmt) (ke : KE) : R := match st with
  | .AugAssign (.Name y _) o x _ => if decide (o = op) && okT C i y && okN C i y && decide (md[i]? = some .F) && decide (i ∉ B.kp) then (match ke C x with
    | some .F => some (some md)
    | _ => none) else none
  | _ => none
def k1Exp (C : Ck) (md : List Md) (st : Stmt) (ke : KE) : R := match st with
  | .Expr x _ => if notComp x then (match ke C x with
    | some _ => some (some md)
    | none => none) else none
  | _ => none
def k1Ret (B : Bx) (C : Ck) (st : Stmt) (ke : KE) : R := match st with
  | .Return (some x) _ => (match ke C x with
    | some m => if decide (m = B.rm) || decide (B.rm = .F) then some none else none
    | none => none)
  | _ => none
def k1RetN (B : Bx) (st : Stmt) : R := match st with
  | .Return none _ => if B.rm = .F then some none else none
  | _ => none
def joinR (a b : Option (List Md)) : R := match a, b with
  | none, r => some r
  | r, none => some r
  | some x, some y => if x = y then some (some x) else none
def k1Ite (B : Bx) (C : Ck) (md : List Md) (st : Stmt) (t : KT) (a b : KB) : R := match st with
  | .If c xs ys _ => if t C c then (match a B C md xs, b B C md ys with
    | some r1, some r2 => joinR r1 r2
    | _, _ => none) else none
  | _ => none
def k1For (B : Bx) (C : Ck) (md : List Md) (tg : Tg) (ik : Ik) (n : Bool) (st : Stmt) (l : KL) (b : KB) : R := match st with
  | .For t iter body [] _ => if n && tgE C md tg t && (tgs tg).all (fun j => decide (j ∉ B.kp)) then (match itArgs C ik t iter with
    | some es => (match l C es, b { B with lp := some md } C md body with
      | some _, some none => some (some md)
      | some _, some (some md') => if md' = md then some (some md) else none
      | _, _ => none)
    | none => none) else none
  | _ => none
def k1Whl (B : Bx) (C : Ck) (md : List Md) (st : Stmt) (t : KT) (b : KB) : R := match st with
  | .While c body [] _ => if t C c then (match b { B with lp := some md } C md body with
    | some none => some (some md)
    | some (some md') => if md' = md then some (some md) else none
    | none => none) else none
  | _ => none
def k1Brk (B : Bx) (md : List Md) (st : Stmt) : R := match st with
  | .Break _ => if B.lp = some md then some none else none
  | _ => none
def k1Cnt (B : Bx) (md : List Md) (st : Stmt) : R := match st with
  | .Continue _ => if B.lp = some md then some none else none
  | _ => none
def k1Rai (st : Stmt) : R := match st with
  | .Raise _ _ _ => some none
  | _ => none
def kNil (md : List Md) (sts : List Stmt) : R := match sts with
  | [] => some (some md)
  | _ => none
def kGhost (a : S) : Option (Nat × Option Md) := match a with
  | .frz i => some (i, none)
  | .fgt i m => some (i, some m)
  | _ => none
def kSeq (B : Bx) (C : Ck) (md : List Md) (g : Option (Nat × Option Md)) (sts : List Stmt) (a : Bx → Ck → List Md → Stmt → R) (b : KB) : R := match g with
  | some (i, o) => if i ∈ B.kp then none else b B C (md.set i (o.getD .F)) sts
  | none => (match sts with
    | st :: rest => (match a B C md st with
      | some (some md1) => b B C md1 rest
      | some none => some none
      | none => none)
    | [] => none)
mutual
def chk1 (a : S) (B : Bx) (C : Ck) (md : List Md) (st : Stmt) : R := match a with
  | .set i e => k1Set B C md i (isLcE e) st (chkE md e)
  | .par tg as => k1Par B C md tg (noPk as) st (chkL md as)
  | .unp tg e => k1Unp B C md tg st (chkE md e)
  | .put .set i k e => k1Put C md i st (chkE md k) (chkE md e)
  | .put .augAdd i k e => k1Aug C md i (isAtom e) st (chkE md k) (chkE md e)
  | .aug .add i e => k1AugN B C md i .Add st (chkE md e)
  | .aug .sub i e => k1AugN B C md i .Sub st (chkE md e)
  | .exp e => k1Exp C md st (chkE md e)
  | .ret e => k1Ret B C st (chkE md e)
  | .retN => k1RetN B st
  | .ite t a b => k1Ite B C md st (chkT md t) (chkB a) (chkB b)
  | .for tg ik it b => k1For B C md tg ik (noPk it) st (chkL md it) (chkB b)
  | .whl t b => k1Whl B C md st (chkT md t) (chkB b)
  | .brk => k1Brk B md st
  | .cnt => k1Cnt B md st
  | .raise _ _ => k1Rai st
  | _ => none
def chkB (a : S) (B : Bx) (C : Ck) (md : List Md) (sts : List Stmt) : R := match a with
  | .skip => kNil md sts
  | .seq a b => kSeq B C md (kGhost a) sts (chk1 a) (chkB b)
  | _ => none
end
end Dt
end
section
set_option Elab.async false
set_option linter.all false
set_option maxRecDepth 100000
set_option maxHeartbeats 4000000
/-! Statements: the checker is sound. -/
namespace Dt
open PySem PySem.Spec PyProof.Rows L2
abbrev W0 : WX := fun _ _ _ _ => False
theorem keep_set {kp : List Nat} {σ : L2.St} {i : Nat} {o : Option V} (h : i ∉ kp) : Keep kp σ (σ.set i o) := fun j m => List.getElem?_set_ne fun e => h (by subst e; exact m)
theorem RepS.fit {md : List Md} {σ : L2.St} {en : Sl} {ts : List Root} {H : Hp} {v : V} {d : D} {m : Md} {i : Nat} (h : RepS md σ en ((v, d, m) :: ts) H) (f : fitTo (md[i]?) m = true) : RepS md (σ.set i (some v)) (en.set i (some d)) ts H := by
  unfold fitTo at f
  split at f
  · exact h.freeze.set (by assumption)
  · rename_i w _ e
    have := of_decide_eq_true f
    subst this
    exact h.set e
  · cases f
section
variable {C : Ck} {U : Ev} {X : Cx} {md : List Md} {B : Bx} {st : Stmt} {nxm : Option (List Md)}
theorem set_s {i : Nat} {e : E} (O : XOk C U X) (h : k1Set B C md i (isLcE e) st (chkE md e) = some nxm) : nxm = some md ∧ PS X st (tS B md (some md) (evS U (.set i e))) := by
  unfold k1Set at h
  split at h
  case h_2 => cases h
  rename_i y py x pos
  split at h
  case isFalse => cases h
  rename_i hq
  simp only [Bool.and_eq_true, decide_eq_true_eq] at hq
  obtain ⟨⟨⟨k1, k2⟩, k3⟩, k4⟩ := hq
  split at h
  case h_2 => cases h
  rename_i m e1
  split at h
  case isFalse => cases h
  rename_i hf
  cases h
  have hk : C.sc.kind = .function := by
    unfold isFn at k3
    split at k3
    · assumption
    · cases k3
  have pe := (snd U e).e (W := W0) O e1
  refine ⟨rfl, PS.imp (set_any O hk k1 ?_ pe fun hx => ?_) fun D0 σ H w => ?_⟩
  · rcases Bool.or_eq_true_iff.mp k4 with k4 | k4
    · exact .inl k4
    · obtain ⟨_, k5⟩ := Bool.and_eq_true_iff.mp k4
      cases x <;> first | exact .inr ⟨_, _, _, _, rfl⟩ | cases k5
  · obtain ⟨elt, gs, scope, p, rfl⟩ := hx
    rcases Bool.or_eq_true_iff.mp k4 with k4 | k4
    · cases k4
    · obtain ⟨k5, _⟩ := Bool.and_eq_true_iff.mp k4
      cases e with
      | lc own tg ik it c m' b =>
        obtain ⟨rfl, _, so⟩ := lc_rules (W := W0) (snd U it) (snd U c) (snd U b) O e1
        exact so
      | lc2 own tg ik it c own1 tg1 ik1 it1 c1 m' b =>
        obtain ⟨rfl, _, so⟩ := lc2_rules (W := W0) (snd U it) (snd U c) (snd U it1) (snd U c1) (snd U b) O e1
        exact so
      | _ => cases k5
  · obtain ⟨en, ts, R, P⟩ := w
    rw [evS] at P
    refine ⟨en, ts, R, P.ofE.mono fun d en' _ P2 v H' R' => ?_⟩
    exact P2 _ _ (keep_set k2) (R'.fit hf)
theorem exp_s {e : E} (O : XOk C U X) (h : k1Exp C md st (chkE md e) = some nxm) : nxm = some md ∧ PS X st (tS B md (some md) (evS U (.exp e))) := by
  unfold k1Exp at h
  split at h
  case h_2 => cases h
  split at h
  case isFalse => cases h
  rename_i x pos nc
  split at h
  case h_2 => cases h
  rename_i m e1
  cases h
  refine ⟨rfl, PS.imp (ps_expr ((snd U e).e (W := W0) O e1) (sw_no nc)) fun D0 σ H ⟨en, ts, R, P⟩ => ⟨en, ts, R, ?_⟩⟩
  rw [evS] at P
  exact P.ofE.mono fun d en' _ P2 v H' R' => P2 σ H' Keep.refl R'.tail
theorem ret_s {e : E} (O : XOk C U X) (hm : KeepM B md) (h : k1Ret B C st (chkE md e) = some nxm) : nxm = none ∧ PS X st (tS B md none (evS U (.ret e))) := by
  unfold k1Ret at h
  split at h
  case h_2 => cases h
  split at h
  case h_2 => cases h
  rename_i x pos m e1
  split at h
  case isFalse => cases h
  rename_i hf
  cases h
  refine ⟨rfl, PS.imp (ps_ret ((snd U e).e (W := W0) O e1)) fun D0 σ H ⟨en, ts, R, P⟩ => ⟨en, ts, R, ?_⟩⟩
  rw [evS] at P
  refine P.ofE.mono fun d en' _ P2 v H' R' => P2 v σ H' md Keep.refl hm ?_
  simp only [Bool.or_eq_true, decide_eq_true_eq] at hf
  rcases hf with hf | hf
  · rw [← hf]; exact R'
  · rw [hf]; exact R'.freeze
theorem retN_s (hm : KeepM B md) (h : k1RetN B st = some nxm) : nxm = none ∧ PS X st (tS B md none (evS U .retN)) := by
  unfold k1RetN at h
  split at h
  case h_2 => cases h
  split at h
  case isFalse => cases h
  rename_i pos hf
  cases h
  refine ⟨rfl, PS.imp ps_retN fun D0 σ H ⟨en, ts, R, P⟩ => ?_⟩
  rw [evS] at P
  refine P .non σ H md Keep.refl hm ?_
  rw [hf]
  exact R.flat fun Z => .non
theorem brk_s (h : k1Brk B md st = some nxm) : nxm = none ∧ PS X st (tS B md none (evS U .brk)) := by
  unfold k1Brk at h
  split at h
  case h_2 => cases h
  split at h
  case isFalse => cases h
  rename_i pos hl
  cases h
  refine ⟨rfl, PS.imp ps_break fun D0 σ H ⟨en, ts, R, P⟩ => ?_⟩
  rw [evS] at P
  obtain ⟨l, e, q⟩ := P
  rw [hl] at e
  cases e
  exact q σ H Keep.refl R
theorem cnt_s (h : k1Cnt B md st = some nxm) : nxm = none ∧ PS X st (tS B md none (evS U .cnt)) := by
  unfold k1Cnt at h
  split at h
  case h_2 => cases h
  split at h
  case isFalse => cases h
  rename_i pos hl
  cases h
  refine ⟨rfl, PS.imp ps_continue fun D0 σ H ⟨en, ts, R, P⟩ => ?_⟩
  rw [evS] at P
  obtain ⟨l, e, q⟩ := P
  rw [hl] at e
  cases e
  exact q σ H Keep.refl R
theorem rai_s {c : Nat} {as : E} (h : k1Rai st = some nxm) : nxm = none ∧ PS X st (tS B md none (evS U (.raise c as))) := by
  unfold k1Rai at h
  split at h
  case h_2 => cases h
  cases h
  refine ⟨rfl, PS.imp ps_never fun D0 σ H ⟨en, ts, R, P⟩ => ?_⟩
  rw [evS] at P
  have P2 := P.ofE (md := md) (W := W0)
  cases e : evL U as en with
  | ok ds en' => rw [e] at P2; exact P2
  | exc c fs en' => rw [e] at P2; exact P2
  | bad => rw [e] at P2; exact P2
theorem put_s {i : Nat} {k e : E} (O : XOk C U X) (h : k1Put C md i st (chkE md k) (chkE md e) = some nxm) : nxm = some md ∧ PS X st (tS B md (some md) (evS U (.put .set i k e))) := by
  unfold k1Put at h
  split at h
  case h_2 => cases h
  rename_i y py kx sp x pos
  split at h
  case isFalse => cases h
  rename_i hq
  simp only [Bool.and_eq_true, decide_eq_true_eq] at hq
  obtain ⟨⟨k1, k2⟩, k3⟩ := hq
  split at h
  case h_2 => cases h
  rename_i m mk e1 e2
  split at h
  case isFalse => cases h
  rename_i fk
  cases h
  obtain ⟨n1, n2, n3, n4⟩ := okN_ O k1
  have hu := O.un
  have pg : PG X (.Subscript (.Name y py) kx sp) (gSub (tVar i) (tD md mk W0 (evE U k)) (rSetA X.K)) := pg_sub (pe_var n1 n2 n3 n4) ((snd U k).e O e2) (set_both (by omega)) (fun v => by cases kx <;> first | rfl | cases k3)
  refine ⟨rfl, PS.imp (ps_asg (pos := pos) ((snd U e).e (W := W0) O e1) pg (show swapsWith x (some (.Subscript (.Name y py) kx sp)) pos.line X.env = pure false from sw_sub) rfl rfl) fun D0 σ H ⟨en, ts, R, P⟩ => ⟨en, ts, R, ?_⟩⟩
  rw [evS] at P
  refine P.ofE.mono fun d en1 _ P2 v H1 R1 => ?_
  by_cases hs : (rdS en1 i).isSome = true
  case neg => rw [if_neg hs] at P2; exact (show False from P2).elim
  rw [if_pos hs] at P2
  obtain ⟨r0, e0⟩ := Option.isSome_iff_exists.mp hs
  obtain ⟨a, rs', s1, _, _⟩ := slot_own R1 e0 k2
  refine ⟨.ref a, s1, en1, (v, d, .F) :: ts, R1.freeze, (Post.more [(v, d, .F)] P2.ofE).mono fun kd en2 _ P3 kv H2 R2 => ?_⟩
  have P4 := P3.ofE (md := md) (W := W0)
  unfold mutO at P4
  split at P4
  case h_2 => exact (show False from P4).elim
  rename_i r1 e1'
  split at P4
  case h_2 => exact (show False from P4).elim
  rename_i y1 r2 e2'
  exact put_step s1 k2 fk R2 e1' e2' fun H' R' => P4 σ H' Keep.refl R'
theorem atom_ev {e : E} (h : isAtom e = true) {en : Sl} {d : D} {en' : Sl} (q : evE U e en = .ok d en') : en' = en := by
  cases e <;> first | exact absurd (show false = true from h) (by decide) | skip
  · rw [evE] at q; cases hq : rdS en _ with
    | none => rw [hq] at q; cases q
    | some x => rw [hq] at q; cases q; rfl
  · rw [evE] at q; cases q; rfl
theorem aug_s {i : Nat} {k e : E} (O : XOk C U X) (h : k1Aug C md i (isAtom e) st (chkE md k) (chkE md e) = some nxm) : nxm = some md ∧ PS X st (tS B md (some md) (evS U (.put .augAdd i k e))) := by
  unfold k1Aug at h
  split at h
  case h_2 => cases h
  rename_i y py kx sp x pos
  split at h
  case isFalse => cases h
  rename_i hq
  simp only [Bool.and_eq_true, decide_eq_true_eq] at hq
  obtain ⟨⟨⟨k1, k2⟩, k3⟩, k4⟩ := hq
  split at h
  case h_2 => cases h
  rename_i mk e1 e2
  split at h
  case isFalse => cases h
  rename_i fk
  cases h
  obtain ⟨n1, n2, n3, n4⟩ := okN_ O k1
  have hu := O.un
  refine ⟨rfl, PS.imp (ps_augS (pe_var n1 n2 n3 n4) ((snd U k).e (W := W0) O e1) get_lst ((snd U e).e (W := W0) O e2) ip_add set_list (fun ov iv new => by cases kx <;> first | rfl | cases k3)) fun D0 σ H ⟨en, ts, R, P⟩ => ?_⟩
  rw [evS] at P
  case x_2 => intro z; cases z
  by_cases hs : (rdS en i).isSome = true
  case neg => rw [if_neg hs] at P; exact (show False from P).elim
  rw [if_pos hs] at P
  obtain ⟨r0, e0⟩ := Option.isSome_iff_exists.mp hs
  obtain ⟨a, rs', s1, _, _⟩ := slot_own R e0 k2
  refine ⟨.ref a, s1, en, ts, R, P.ofE.mono fun kd en2 _ P2 kv H2 R2 => ?_⟩
  have P3 := P2.ofE (md := md) (W := W0)
  cases he : evE U e en2 with
  | exc c fs en' => rw [he] at P3; exact (show False from P3).elim
  | bad => rw [he] at P3; exact (show False from P3).elim
  | ok d en3 =>
    have := atom_ev k4 he
    subst this
    rw [he] at P3
    have P3 : PostS B D0 σ ts (some md) (SOut.ofE (mutO .augAdd i [kd, d] en3) fun x σ => SOut.nx σ) := P3
    have P4 := P3.ofE (md := md) (W := W0)
    unfold mutO at P4
    split at P4
    case h_2 => exact (show False from P4).elim
    rename_i r1 e1'
    split at P4
    case h_2 => exact (show False from P4).elim
    rename_i y1 r2 e2'
    obtain ⟨Z0, vk⟩ := R2.vw fk
    obtain ⟨a', rs2, s2, raw, close⟩ := slot_own R2.tail e1' k2
    rw [s1] at s2
    cases s2
    unfold mopF at e2'
    split at e2' <;> first | contradiction | skip
    rename_i xs z b0 e3 e4
    cases e4
    obtain ⟨j, hj, h5⟩ := Option.bind_eq_some_iff.mp e2'
    split at h5
    case h_2 => cases h5
    rename_i a0 ha0
    cases h5
    cases vw_int vk
    -- the list as it stands
    obtain ⟨Z, o, fs, g, OP⟩ := rep_open raw
    rcases OP.kids with ⟨us, ds', rfl, q1, q2⟩ | ⟨us, ds', rfl, q1, q2⟩ | ⟨us, ds', n, rfl, q1, q2⟩
    · cases q1
      obtain ⟨u, hu1, hu2⟩ := (ownA_F q2).get ha0
      cases vw_int hu2.vw
      have hlen := q2.length
      refine ⟨a, us, z, .int a0, rfl, rfl, OP.at1, ?_, en3, ts, R2.tail, ?_⟩
      · show (ixN us.length z).bind (fun j => us[j]?) = _
        rw [hlen, show ixN xs.length z = some j from hj]
        exact hu1
      · rw [he]
        intro w H3 R3
        obtain ⟨Z3, vw3⟩ := R3.vw rfl
        cases vw_int vw3
        refine ⟨a0, b0, rfl, rfl, ?_⟩
        obtain ⟨a3, rs3, s3, raw3, close3⟩ := slot_own R3.tail e1' k2
        rw [s1] at s3
        cases s3
        have raw4 : Rep ((.int (a0 + b0), .int (a0 + b0), .F) :: (.ref a, .list xs, .O .F) :: (rs3 ++ ts)) H3 := raw3.cons_rd fun Z => .int _
        obtain ⟨us3, vj, h1, h2, h3, h4⟩ := rep_setAt raw4 ha0
        exact ⟨a, us3, z, j, rfl, rfl, h1, by rw [h2]; exact hj, P4 σ _ Keep.refl (close3 _ _ _ h4)⟩
    · cases q1
    · cases q1
theorem augN_s {i : Nat} {e : E} (O : XOk C U X) {op : Operator} {o : Op} (ho : (op = .Add ∧ o = .add) ∨ (op = .Sub ∧ o = .sub)) (h : k1AugN B C md i op st (chkE md e) = some nxm) : nxm = some md ∧ PS X st (tS B md (some md) (evS U (.aug o i e))) := by
  unfold k1AugN at h
  split at h
  case h_2 => cases h
  rename_i y py o' x pos
  split at h
  case isFalse => cases h
  rename_i hq
  simp only [Bool.and_eq_true, decide_eq_true_eq] at hq
  obtain ⟨⟨⟨⟨rfl, k1⟩, k1'⟩, k2⟩, k3⟩ := hq
  split at h
  case h_2 => cases h
  rename_i e1
  cases h
  obtain ⟨n1, n2, n3, n4⟩ := okN_ O k1'
  obtain ⟨h1, h2⟩ := Bool.and_eq_true_iff.mp (show (decide (C.N[i]? = some y) && sto C y) = true from k1)
  obtain ⟨l, f⟩ := O.sto h2
  have pe := (snd U e).e (W := W0) O e1
  have core : ∀ (g : Int → Int → Int) (D0 : Ends) (σ : L2.St) (H : Hp), (∀ x d y, augF o x d = some y → ∃ a b, x = .int a ∧ d = .int b ∧ y = .int (g a b)) → tS B md (some md) (evS U (.aug o i e)) D0 σ H → tAug i (tD md .F W0 (evE U e)) (ipI g) D0 σ H := by
    intro g D0 σ H hg ⟨en, ts, R, P⟩
    rw [evS] at P
    by_cases hs : (rdS en i).isSome = true
    case neg => rw [if_neg hs] at P; exact (show False from P).elim
    rw [if_pos hs] at P
    obtain ⟨r0, e0⟩ := Option.isSome_iff_exists.mp hs
    obtain ⟨v, m', rs, q1, _⟩ := R.get e0
    refine ⟨v, q1, en, ts, R, P.ofE.mono fun d en' _ P2 w H' R' => ?_⟩
    have P3 := P2.ofE (md := md) (W := W0)
    obtain ⟨y0, ey, P4⟩ := P3.ofO
    obtain ⟨x0, ex, ey⟩ := Option.bind_eq_some_iff.mp ey
    obtain ⟨a, b, rfl, rfl, rfl⟩ := hg _ _ _ ey
    obtain ⟨Z, vw⟩ := R'.vw rfl
    cases vw_int vw
    obtain ⟨v', s2, R2⟩ := R'.tail.dup ex k2
    rw [q1] at s2
    cases s2
    obtain ⟨Z2, vw2⟩ := R2.vw rfl
    cases vw_int vw2
    exact ⟨a, b, rfl, rfl, P4 _ _ (keep_set k3) ((R'.tail.flat fun Z => .int _).set k2)⟩
  rcases ho with ⟨rfl, rfl⟩ | ⟨rfl, rfl⟩
  · refine ⟨rfl, PS.imp (ps_aug O.nd n1 l pe ip_add f) fun D0 σ H w => core (fun a b => a + b) D0 σ H (fun x d y h => ?_) w⟩
    unfold augF at h
    split at h <;> first | (cases h; exact ⟨_, _, rfl, rfl, rfl⟩) | contradiction
  · refine ⟨rfl, PS.imp (ps_aug O.nd n1 l pe ip_sub f) fun D0 σ H w => core (fun a b => a - b) D0 σ H (fun x d y h => ?_) w⟩
    unfold augF at h
    split at h <;> first | (cases h; exact ⟨_, _, rfl, rfl, rfl⟩) | contradiction
end
end Dt
end
section
set_option Elab.async false
set_option linter.all false
set_option maxRecDepth 100000
set_option maxHeartbeats 4000000
/-! Statements: the checker is sound (blocks, loops). -/
namespace Dt
open PySem PySem.Spec PyProof.Rows L2
structure SndS (U : Ev) (a : S) : Prop where
  one : ∀ {B : Bx} {C : Ck} {X : Cx} {md : List Md} {st : Stmt} {nxm : Option (List Md)}, XOk C U X → KeepM B md → chk1 a B C md st = some nxm → (∀ md', nxm = some md' → KeepM B md') ∧ PS X st (tS B md nxm (evS U a))
  blk : ∀ {B : Bx} {C : Ck} {X : Cx} {md : List Md} {sts : List Stmt} {nxm : Option (List Md)}, XOk C U X → KeepM B md → chkB a B C md sts = some nxm → (∀ md', nxm = some md' → KeepM B md') ∧ PSs X sts (tS B md nxm (evS U a))
theorem PostS.none {B : Bx} {D0 : Ends} {σ : L2.St} {ts : List Root} {nxm : Option (List Md)} {x : SOut} (h : PostS B D0 σ ts nxm x) : PostS B D0 σ ts none x := by
  cases x with
  | nx en => trivial
  | _ => exact h
section
variable {C : Ck} {U : Ev} {X : Cx} {md : List Md} {B : Bx} {st : Stmt} {nxm : Option (List Md)}
theorem sw_pair {env : Env} {x y : Str} {px py pt pt2 : Pos} {kt k2 : Nat} {a b : Expr} (hb : env.blockKind = .function) (hx : env.kindOf x = some .local) (hy : env.kindOf y = some .local) (hl : (py.line == px.line) = true) (hxy : x ≠ y) (na : nostar a = true) (nb : nostar b = true)
    (f1 : [a, b].all (foldedForSure 8) = false) (f2 : [a, b].all (constantsAlone 8) = false) : swappedStores [.Tuple [.Name x px, .Name y py] kt pt] (.Tuple [a, b] k2 pt2) env = pure (some [x, y]) := by
  have hl' : py.line = px.line := by simpa using hl
  unfold swappedStores
  simp only [hb, List.head?_cons, Option.map_some, Option.getD_some, Expr.pos, List.filterMap_cons, List.filterMap_nil, hx, hy, beq_self_eq_true, Bool.true_and, hl', if_true, List.length_cons, List.length_nil, f1, f2]
  have e : [x, y].eraseDups = [x, y] := by
    have hxy' : (y == x) = false := by
      rw [beq_eq_false_iff_ne]
      exact fun q => hxy q.symm
    have hxy2 : (x == y) = false := by
      rw [beq_eq_false_iff_ne]
      exact hxy
    simp [List.eraseDups_cons, hxy', hxy2]
  rw [e]
  refine (if_neg (by decide)).trans ((if_neg ?_).trans rfl)
  intro q
  obtain ⟨z, hz, q⟩ := List.any_eq_true.mp q
  have nz : nostar z = true := by
    rcases List.mem_cons.mp hz with rfl | hz
    · exact na
    · cases List.mem_singleton.mp hz
      exact nb
  cases z <;> first | exact nomatch (show false = true from q) | exact nomatch (show false = true from nz)
theorem loc_ {x : Str} (O : XOk C U X) (h : isLoc C x = true) : X.env.scope.names.lookup x = some .local := by
  unfold isLoc at h
  split at h
  · rw [O.sc]; assumption
  · cases h
theorem fn_ (h : isFn C = true) : C.sc.kind = .function := by
  unfold isFn at h
  split at h
  · assumption
  · cases h
theorem par2_s {tg : Tg} {as : E} (O : XOk C U X) (h : k1Par2 B C md tg (noPk as) st (chkL md as) = some nxm) : nxm = some md ∧ PS X st (tS B md (some md) (evS U (.par tg as))) := by
  unfold k1Par2 at h
  split at h
  case h_2 => cases h
  rename_i i j y1 p1 y2 p2 kt pt a b k2 pt2 pos
  split at h
  case isFalse => cases h
  rename_i hq
  simp only [Bool.and_eq_true, decide_eq_true_eq, Bool.not_eq_true'] at hq
  obtain ⟨⟨⟨⟨⟨⟨⟨⟨⟨⟨⟨⟨⟨⟨q1, q2⟩, q3⟩, q4⟩, q5⟩, q6⟩, q7⟩, q8⟩, q9⟩, q10⟩, q11⟩, q12⟩, q13⟩, q14⟩, q15⟩ := hq
  split at h
  case h_2 => cases h
  rename_i m1 m2 e1
  split at h
  case isFalse => cases h
  rename_i hf
  obtain ⟨f1, f2⟩ := Bool.and_eq_true_iff.mp hf
  cases h
  obtain ⟨tes, T, imp, _⟩ := (snd U as).l (W := W0) O e1
  have hb : X.env.blockKind = .function := by
    unfold Env.blockKind
    rw [O.sc, fn_ q14]
    rfl
  refine ⟨rfl, PS.imp (ps_par O.calm O.nd (by rw [O.N]; exact q1) (by rw [O.N]; exact q2) q3 (loc_ O q5) (loc_ O q6) T.pa (sw_pair hb (loc_ O q5) (loc_ O q6) q9 q4 q12 q13 q10 q11) (by rfl)) fun D0 σ H ⟨en, ts, R, P⟩ => imp σ H _ ⟨en, ts, R, ?_⟩⟩
  rw [evS] at P
  refine P.ofE.mono fun ds en' _ P2 vs H' tr R' o => ?_
  have n := q15
  cases o with
  | pk _ _ _ _ => cases n
  | lnt _ _ _ _ => cases n
  | @tmp a0 r0 v d _ vs ds _ tr hn o =>
    have n2 : noPk r0 = true := (Bool.and_eq_true_iff.mp (show (!isPk a0 && noPk r0) = true from n)).2
    cases o with
    | pk _ _ _ _ => cases n2
    | lnt _ _ _ _ => cases n2
    | @tmp a1 r1 w d' _ vs ds _ tr hn2 o =>
      cases o
      exact ⟨v, w, rfl, P2 _ _ ((keep_set q7).trans (keep_set q8)) ((R'.fit f1).fit f2)⟩
theorem sw_trip {env : Env} {x y z : Str} {px py pz pt pt2 : Pos} {kt k2 : Nat} {a b c : Expr} (hb : env.blockKind = .function) (hx : env.kindOf x = some .local) (hy : env.kindOf y = some .local) (hz : env.kindOf z = some .local) (hl : (py.line == px.line) = true) (hl2 : (pz.line == px.line) = true) (hxy : x ≠ y) (hxz : x ≠ z) (hyz : y ≠ z) (na : nostar a = true) (nb : nostar b = true) (nc : nostar c = true)
    (f1 : [a, b, c].all (foldedForSure 8) = false) (f2 : [a, b, c].all (constantsAlone 8) = false) : swappedStores [.Tuple [.Name x px, .Name y py, .Name z pz] kt pt] (.Tuple [a, b, c] k2 pt2) env = pure (some [x, y, z]) := by
  have hl' : py.line = px.line := by simpa using hl
  have hl2' : pz.line = px.line := by simpa using hl2
  unfold swappedStores
  simp only [hb, List.head?_cons, Option.map_some, Option.getD_some, Expr.pos, List.filterMap_cons, List.filterMap_nil, hx, hy, hz, beq_self_eq_true, Bool.true_and, hl', hl2', if_true, List.length_cons, List.length_nil, f1, f2]
  have e : [x, y, z].eraseDups = [x, y, z] := by
    have g : ∀ {u v : Str}, u ≠ v → (v == u) = false := fun h => by
      rw [beq_eq_false_iff_ne]
      exact fun q => h q.symm
    simp [List.eraseDups_cons, g hxy, g hxz, g hyz]
  rw [e]
  refine (if_neg (by decide)).trans ((if_neg ?_).trans rfl)
  intro q
  obtain ⟨w, hw, q⟩ := List.any_eq_true.mp q
  have nz : nostar w = true := by
    rcases List.mem_cons.mp hw with rfl | hw
    · exact na
    · rcases List.mem_cons.mp hw with rfl | hw
      · exact nb
      · cases List.mem_singleton.mp hw
        exact nc
  cases w <;> first | exact nomatch (show false = true from q) | exact nomatch (show false = true from nz)
theorem par3_s {tg : Tg} {as : E} (O : XOk C U X) (h : k1Par3 B C md tg (noPk as) st (chkL md as) = some nxm) : nxm = some md ∧ PS X st (tS B md (some md) (evS U (.par tg as))) := by
  unfold k1Par3 at h
  split at h
  case h_2 => cases h
  rename_i i j l y1 p1 y2 p2 y3 p3 kt pt a b c k2 pt2 pos
  split at h
  case isFalse => cases h
  rename_i hq
  simp only [Bool.and_eq_true, decide_eq_true_eq, Bool.not_eq_true'] at hq
  obtain ⟨⟨⟨⟨⟨⟨⟨⟨⟨⟨⟨⟨⟨⟨⟨⟨⟨⟨⟨⟨⟨⟨⟨q1, q2⟩, q2l⟩, q3⟩, q3a⟩, q3b⟩, q4⟩, q4a⟩, q4b⟩, q5⟩, q6⟩, q6a⟩, q7⟩, q8⟩, q8a⟩, q9⟩, q9a⟩, q10⟩, q11⟩, q12⟩, q13⟩, q13a⟩, q14⟩, q15⟩ := hq
  split at h
  case h_2 => cases h
  rename_i m1 m2 m3 e1
  split at h
  case isFalse => cases h
  rename_i hf
  simp only [Bool.and_eq_true] at hf
  obtain ⟨⟨f1, f2⟩, f3⟩ := hf
  cases h
  obtain ⟨tes, T, imp, _⟩ := (snd U as).l (W := W0) O e1
  have hb : X.env.blockKind = .function := by
    unfold Env.blockKind
    rw [O.sc, fn_ q14]
    rfl
  refine ⟨rfl, PS.imp (ps_par3 O.calm O.nd (by rw [O.N]; exact q1) (by rw [O.N]; exact q2) (by rw [O.N]; exact q2l) q3 q3a q3b (loc_ O q5) (loc_ O q6) (loc_ O q6a) T.pa (sw_trip hb (loc_ O q5) (loc_ O q6) (loc_ O q6a) q9 q9a q4 q4a q4b q12 q13 q13a q10 q11) (by rfl)) fun D0 σ H ⟨en, ts, R, P⟩ => imp σ H _ ⟨en, ts, R, ?_⟩⟩
  rw [evS] at P
  refine P.ofE.mono fun ds en' _ P2 vs H' tr R' o => ?_
  have n := q15
  cases o with
  | pk _ _ _ _ => cases n
  | lnt _ _ _ _ => cases n
  | @tmp a0 r0 v d _ vs ds _ tr hn o =>
    have n2 : noPk r0 = true := (Bool.and_eq_true_iff.mp (show (!isPk a0 && noPk r0) = true from n)).2
    cases o with
    | pk _ _ _ _ => cases n2
    | lnt _ _ _ _ => cases n2
    | @tmp a1 r1 w d' _ vs ds _ tr hn2 o =>
      have n3 : noPk r1 = true := (Bool.and_eq_true_iff.mp (show (!isPk a1 && noPk r1) = true from n2)).2
      cases o with
      | pk _ _ _ _ => cases n3
      | lnt _ _ _ _ => cases n3
      | @tmp a2 r2 u d2 _ vs ds _ tr hn3 o =>
        cases o
        exact ⟨v, w, u, rfl, P2 _ _ (((keep_set q7).trans (keep_set q8)).trans (keep_set q8a)) (((R'.fit f1).fit f2).fit f3)⟩
theorem par_s {tg : Tg} {as : E} (O : XOk C U X) (h : k1Par B C md tg (noPk as) st (chkL md as) = some nxm) : nxm = some md ∧ PS X st (tS B md (some md) (evS U (.par tg as))) := by
  unfold k1Par at h
  split at h
  · rename_i e
    cases h
    exact par2_s O e
  · exact par3_s O h
theorem fm_short {α β : Type} {f : α → Option β} : ∀ {l : List α}, (∃ a ∈ l, f a = none) → (l.filterMap f).length < l.length
  | [], ⟨_, h, _⟩ => nomatch h
  | a :: l, ⟨b, h, e⟩ => by
    have le : (l.filterMap f).length ≤ l.length := List.length_filterMap_le ..
    cases ea : f a with
    | none =>
      rw [List.filterMap_cons_none ea, List.length_cons]
      omega
    | some c =>
      rw [List.filterMap_cons_some ea, List.length_cons, List.length_cons]
      rcases List.mem_cons.mp h with rfl | h
      · rw [ea] at e; cases e
      · exact Nat.succ_lt_succ (fm_short ⟨b, h, e⟩)
theorem sw_cell (O : XOk C U X) {es : List Expr} {k : Nat} {p : Pos} {x : Expr} (h : es.any (cellT C) = true) : swappedStores [.Tuple es k p] x X.env = pure none := by
  obtain ⟨e, he, hc⟩ := List.any_eq_true.mp h
  cases x with
  | Tuple vs k2 p2 =>
    unfold swappedStores
    simp only
    split
    · rfl
    split
    · rfl
    split
    · rfl
    · rename_i hn
      exfalso
      apply hn
      rw [Bool.or_eq_true_iff]
      refine .inl ?_
      rw [bne_iff_ne]
      refine Nat.ne_of_lt (fm_short ⟨e, he, ?_⟩)
      cases e with
      | Name y py =>
        have hl : X.env.kindOf y ≠ some .local := fun q => by
          have q : X.env.scope.names.lookup y = some .local := q
          rw [O.sc] at q
          have : isLoc C y = true := by unfold isLoc; rw [q]
          rw [show cellT C (.Name y py) = !isLoc C y from rfl, this] at hc
          cases hc
        simp [hl]
      | _ => cases hc
  | _ => rfl
theorem unp_s {tg : Tg} {e : E} (O : XOk C U X) (h : k1Unp B C md tg st (chkE md e) = some nxm) : nxm = some md ∧ PS X st (tS B md (some md) (evS U (.unp tg e))) := by
  unfold k1Unp at h
  split at h
  case h_2 => cases h
  rename_i es k p x pos
  split at h
  case isFalse => cases h
  rename_i hq
  simp only [Bool.and_eq_true] at hq
  obtain ⟨⟨⟨⟨q1, q2⟩, q3⟩, q4⟩, q5⟩ := hq
  split at h
  case h_2 => cases h
  rename_i m e1
  cases h
  have sw : swappedStores [.Tuple es k p] x X.env = pure none := by
    rcases Bool.or_eq_true_iff.mp q4 with q4 | q4
    · cases x <;> first | rfl | cases q4
    · exact sw_cell O q4
  refine ⟨rfl, PS.imp (ps_asg (pos := pos) ((snd U e).e (W := W0) O e1) (pg_snd (wk := false) O q1 (fun z => nomatch z)) (show swapsWith x (some (.Tuple es k p)) pos.line X.env = pure false from sw_no q3) sw rfl) fun D0 σ H ⟨en, ts, R, P⟩ => ⟨en, ts, R, ?_⟩⟩
  rw [evS] at P
  refine P.ofE.mono fun d en' _ P2 v H' R' => ?_
  split at P2
  case h_2 => exact (show False from P2).elim
  rename_i en2 ea
  exact ⟨en', ts, d, R'.freeze, en2, ea, fun σ' R2 ag => P2 σ' H' (Keep.agr ag fun j m hj => of_decide_eq_true (List.all_eq_true.mp q2 j hj) m) R2⟩
theorem join_ {a b : Option (List Md)} (h : joinR a b = some nxm) : (a = none ∨ a = nxm) ∧ (b = none ∨ b = nxm) := by
  unfold joinR at h
  split at h
  · cases h; exact ⟨.inl rfl, .inr rfl⟩
  · cases h; exact ⟨.inr rfl, .inl rfl⟩
  · split at h
    · rename_i e
      subst e
      cases h
      exact ⟨.inr rfl, .inr rfl⟩
    · cases h
theorem ite_s {t : E} {a b : S} (ha : SndS U a) (hb : SndS U b) (O : XOk C U X) (hm : KeepM B md) (h : k1Ite B C md st (chkT md t) (chkB a) (chkB b) = some nxm) : (∀ md', nxm = some md' → KeepM B md') ∧ PS X st (tS B md nxm (evS U (.ite t a b))) := by
  unfold k1Ite at h
  split at h
  case h_2 => cases h
  rename_i c xs ys pos
  split at h
  case isFalse => cases h
  rename_i ht
  split at h
  case h_2 => cases h
  rename_i r1 r2 e1 e2
  obtain ⟨j1, j2⟩ := join_ h
  obtain ⟨m1, p1⟩ := ha.blk O hm e1
  obtain ⟨m2, p2⟩ := hb.blk O hm e2
  refine ⟨fun md' e => ?_, PS.imp (ps_if ((snd U t).t (W := W0) O ht).1 p1 p2) fun D0 σ H ⟨en, ts, R, P⟩ => ⟨en, ts, R, ?_⟩⟩
  · subst e
    rcases j1 with j1 | j1
    · rcases j2 with j2 | j2
      · subst j1 j2
        unfold joinR at h
        cases h
      · exact m2 md' j2
    · exact m1 md' j1
  · rw [evS] at P
    refine P.ofE.mono fun c0 en' _ P2 H' R' => ?_
    cases c0 with
    | true =>
      refine ⟨en', ts, R', ?_⟩
      rcases j1 with j1 | j1
      · subst j1; exact P2.none
      · subst j1; exact P2
    | false =>
      refine ⟨en', ts, R', ?_⟩
      rcases j2 with j2 | j2
      · subst j2; exact P2.none
      · subst j2; exact P2
/-- a turn of a loop: what its body is to reach -/
theorem turn_post {D0 : Ends} {σ2 : L2.St} {ts more : List Root} {nb : Option (List Md)} {x : SOut} {again : Sl → SOut} {N : L2.St → Hp → Prop} (hn : nb = none ∨ nb = some md)
    (P : PostS B D0 σ2 ts (some md) (match x with | .nx en => again en | .cnt en => again en | .brk en => .nx en | y => y))
    (hN : ∀ (en2 : Sl) (σ3 : L2.St) (H3 : Hp), (x = .nx en2 ∨ x = .cnt en2) → Keep B.kp σ2 σ3 → RepS md σ3 en2 (more ++ ts) H3 → PostS B D0 σ2 ts (some md) (again en2) → N σ3 H3) :
    PostS { B with lp := some md } { D0 with nx := N, ct := N, bk := D0.nx } σ2 (more ++ ts) nb x := by
  cases x with
  | nx en2 =>
    rcases hn with rfl | rfl
    · trivial
    · exact fun σ3 H3 k r => hN en2 σ3 H3 (.inl rfl) k r P
  | cnt en2 => exact ⟨md, rfl, fun σ3 H3 k r => hN en2 σ3 H3 (.inr rfl) k r P⟩
  | brk en2 => exact ⟨md, rfl, fun σ3 H3 k r => P σ3 H3 k (RepS.drop r)⟩
  | ret d en2 => exact fun v σ3 H3 mdx k m r => P v σ3 H3 mdx k m (RepS.drop1 r)
  | exc _ _ _ => exact P
  | bad => exact P
theorem for_s {tg : Tg} {ik : Ik} {it : E} {b : S} (hb : SndS U b) (O : XOk C U X) (hm : KeepM B md) (h : k1For B C md tg ik (noPk it) st (chkL md it) (chkB b) = some nxm) : nxm = some md ∧ PS X st (tS B md (some md) (evS U (.for tg ik it b))) := by
  unfold k1For at h
  split at h
  case h_2 => cases h
  rename_i t iter body pos
  split at h
  case isFalse => cases h
  rename_i hq
  simp only [Bool.and_eq_true] at hq
  obtain ⟨⟨q1, q2⟩, q3⟩ := hq
  split at h
  case h_2 => cases h
  rename_i es e1
  have fin : ∀ nb : Option (List Md), ∀ ms : List Md, chkL md it C es = some ms → chkB b { B with lp := some md } C md body = some nb → (nb = none ∨ nb = some md) → PS X (.For t iter body [] pos) (tS B md (some md) (evS U (.for tg ik it b))) := by
    intro nb ms e2 e3 hnb
    obtain ⟨pi, fs⟩ := pi_ok (W := W0) (snd U it) O e1 e2 q1
    obtain ⟨_, pb⟩ := hb.blk (B := { B with lp := some md }) O hm e3
    have po : PassesOwn (model X.prog X.w) X.A X.env X.xe := by rw [O.xe]; exact PassesOwn.never
    refine PS.imp (ps_for po O.calm pi (pg_snd O q2 (wk_tg e1 q2)) pb (fs _)) fun D0 σ H ⟨en, ts, R, P⟩ => ?_
    rw [evS] at P
    rw [← ofE_bind (evL U it en)] at P
    refine ⟨en, ts, R, (P.ofE (md := md) (W := W0)).mono fun items en' _ P2 J H' tr R' w => ?_⟩
    refine ⟨fun i m σ1 H1 => m = items.length - i ∧ i ≤ items.length ∧ Keep B.kp σ σ1 ∧ ∃ en1, RepS md σ1 en1 (tr ++ ts) H1 ∧ PostS B D0 σ1 ts (some md) (forLoop (fun d σ => match asgT tg d σ with | some σ => evS U b σ | none => .bad) (items.drop i) en1),
      ⟨_, rfl, Nat.zero_le _, Keep.refl, en', R', P2⟩, ?_⟩
    rintro i m σ1 H1 ⟨rfl, hi, kσ, en1, R1, P1⟩
    obtain ⟨rs, S, raw⟩ := R1.raw
    obtain ⟨w1, w2⟩ := w i H1 (rs ++ ts) (raw.perm (List.perm_append_comm_assoc ..))
    by_cases hl : i < items.length
    · right
      rw [List.drop_eq_getElem_cons hl, forLoop] at P1
      obtain ⟨go, y⟩ := w2 items[i] (List.getElem?_eq_getElem hl)
      refine ⟨go, fun σ3 H3 => Keep B.kp σ1 σ3 ∧ ∃ en3, RepS md σ3 en3 (tr ++ ts) H3 ∧ PostS B D0 σ3 ts (some md) (forLoop (fun d σ => match asgT tg d σ with | some σ => evS U b σ | none => .bad) (items.drop (i + 1)) en3),
        fun σ3 H3 ⟨k3, en3, r3, p3⟩ => ⟨items.length - (i + 1), by omega, rfl, hl, kσ.trans k3, en3, r3, p3⟩, fun x H2 hy => ?_⟩
      have R2 : ItS (wkI ik) md σ1 en1 x items[i] (tr ++ ts) H2 := by
        obtain ⟨l, rl, back⟩ := (y x H2 hy).split
        refine back _ _ _ _ ⟨rs, S, rl.perm ?_⟩
        exact List.Perm.trans (List.Perm.append_left l (List.perm_append_comm_assoc ..)) (List.perm_append_comm_assoc ..)
      cases ea : asgT tg items[i] en1 with
      | none =>
        rw [ea] at P1
        exact (show False from P1).elim
      | some en2 =>
        rw [ea] at P1
        refine ⟨en1, _, items[i], R2, en2, ea, fun σ2 R3 ag => ⟨en2, _, R3, ?_⟩⟩
        have k2 : Keep B.kp σ1 σ2 := Keep.agr ag fun j mj hj => of_decide_eq_true (List.all_eq_true.mp q3 j hj) mj
        refine turn_post (again := forLoop (fun d σ => match asgT tg d σ with | some σ => evS U b σ | none => .bad) (items.drop (i + 1))) hnb ?_ fun en4 σ3 H3 _ k3 r3 p3 => ⟨k2.trans k3, en4, r3, p3.keep k3⟩
        refine PostS.keep k2 ?_
        simp only at P1
        cases eb : evS U b en2 <;> (rw [eb] at P1; exact P1)
    · left
      have hi2 : items.length ≤ i := Nat.le_of_not_lt hl
      rw [List.drop_eq_nil_of_le hi2, forLoop] at P1
      exact ⟨w1 hi2, P1 σ1 H1 Keep.refl (RepS.drop R1)⟩
  split at h
  · rename_i ms e2 e3
    cases h
    exact ⟨rfl, fin _ ms e2 e3 (.inl rfl)⟩
  · rename_i ms md' e2 e3
    split at h
    · rename_i em
      subst em
      cases h
      exact ⟨rfl, fin _ ms e2 e3 (.inr rfl)⟩
    · cases h
  · cases h
theorem whl_s {t : E} {b : S} (hb : SndS U b) (O : XOk C U X) (hm : KeepM B md) (h : k1Whl B C md st (chkT md t) (chkB b) = some nxm) : nxm = some md ∧ PS X st (tS B md (some md) (evS U (.whl t b))) := by
  unfold k1Whl at h
  split at h
  case h_2 => cases h
  rename_i c body pos
  split at h
  case isFalse => cases h
  rename_i ht
  have fin : ∀ nb : Option (List Md), chkB b { B with lp := some md } C md body = some nb → (nb = none ∨ nb = some md) → PS X (.While c body [] pos) (tS B md (some md) (evS U (.whl t b))) := by
    intro nb e3 hnb
    obtain ⟨_, pb⟩ := hb.blk (B := { B with lp := some md }) O hm e3
    have po : PassesOwn (model X.prog X.w) X.A X.env X.xe := by rw [O.xe]; exact PassesOwn.never
    refine PS.imp (ps_while po ((snd U t).t (W := W0) O ht).1 pb) fun D0 σ H ⟨en, ts, R, P⟩ => ?_
    rw [evS] at P
    refine ⟨fun m σ1 H1 => Keep B.kp σ σ1 ∧ ∃ en1, RepS md σ1 en1 ts H1 ∧ PostS B D0 σ1 ts (some md) (whlLoop (evT U t) (evS U b) m en1), ⟨U.wf, Keep.refl, en, R, P⟩, ?_⟩
    rintro m σ1 H1 ⟨k1, en1, R1, P1⟩
    cases m with
    | zero => exact (show False from P1).elim
    | succ m =>
      rw [whlLoop] at P1
      refine ⟨en1, ts, R1, P1.ofE.mono fun c0 en2 _ P2 H2 R2 => ?_⟩
      cases c0 with
      | false => exact P2 σ1 H2 Keep.refl R2
      | true =>
        simp only [if_true] at P2 ⊢
        refine ⟨fun σ3 H3 => Keep B.kp σ1 σ3 ∧ ∃ en3, RepS md σ3 en3 ts H3 ∧ PostS B D0 σ3 ts (some md) (whlLoop (evT U t) (evS U b) m en3), fun σ3 H3 ⟨k3, en3, r3, p3⟩ => ⟨m, Nat.lt_succ_self m, k1.trans k3, en3, r3, p3⟩, en2, ts, R2, ?_⟩
        refine turn_post (more := []) (again := whlLoop (evT U t) (evS U b) m) hnb ?_ fun en4 σ3 H3 _ k3 r3 p3 => ⟨k3, en4, r3, p3.keep k3⟩
        cases eb : evS U b en2 <;> (rw [eb] at P2; exact P2)
  split at h
  · rename_i e3
    cases h
    exact ⟨rfl, fin _ e3 (.inl rfl)⟩
  · rename_i md' e3
    split at h
    · rename_i em
      subst em
      cases h
      exact ⟨rfl, fin _ e3 (.inr rfl)⟩
    · cases h
  · cases h
end
end Dt
end
section
set_option Elab.async false
set_option linter.all false
set_option maxRecDepth 100000
set_option maxHeartbeats 4000000
/-! Blocks, defs. -/
namespace Dt
open PySem PySem.Spec PyProof.Rows L2
theorem SR.mode {md : List Md} {σ : L2.St} {en : Sl} {rs : List Root} (h : SR md σ en rs) : ∀ (i : Nat) (m : Md), rdS en i = none → SR (md.set i m) σ en rs := by
  induction h with
  | nil => intro i m _; exact .nil
  | @live m0 md v σ d en rs h ih =>
    intro i m e
    cases i with
    | zero => rw [rdS_zero] at e; cases e
    | succ i => rw [rdS_cons] at e; exact .live (ih i m e)
  | @dead m0 md o σ en rs h ih =>
    intro i m e
    cases i with
    | zero => exact .dead h
    | succ i => rw [rdS_cons] at e; exact .dead (ih i m e)
theorem rd_gone {en : Sl} {i : Nat} : rdS (en.set i none) i = none := by
  unfold rdS
  rw [List.getElem?_set]
  by_cases h : i < en.length
  · simp [h]
  · simp [h]
theorem RepS.fgt {md : List Md} {σ : L2.St} {en : Sl} {ts : List Root} {H : Hp} (h : RepS md σ en ts H) (i : Nat) (m : Md) : RepS (md.set i m) σ (en.set i none) ts H := by
  have h1 := h.kill i ((σ[i]?).join)
  have e : σ.set i ((σ[i]?).join) = σ := by
    apply List.ext_getElem?
    intro j
    rw [List.getElem?_set]
    by_cases z : i = j
    · subst z
      by_cases hl : i < σ.length
      · rw [if_pos rfl, if_pos hl, List.getElem?_eq_getElem hl]
        rfl
      · rw [if_pos rfl, if_neg hl, List.getElem?_eq_none (Nat.le_of_not_lt hl)]
    · rw [if_neg z]
  rw [e] at h1
  obtain ⟨rs, S, raw⟩ := h1
  exact ⟨rs, S.mode i m rd_gone, raw⟩
theorem keepM_set {B : Bx} {md : List Md} {i : Nat} {m : Md} (h : KeepM B md) (n : i ∉ B.kp) : KeepM B (md.set i m) := fun j hj => by
  rw [List.getElem?_set_ne fun e => n (by subst e; exact hj)]
  exact h j hj
theorem seq_s {U : Ev} {a b : S} (ha : SndS U a) (hb : SndS U b) {B : Bx} {C : Ck} {X : Cx} {md : List Md} {sts : List Stmt} {nxm : Option (List Md)} (O : XOk C U X) (hm : KeepM B md) (h : kSeq B C md (kGhost a) sts (chk1 a) (chkB b) = some nxm) :
    (∀ md', nxm = some md' → KeepM B md') ∧ PSs X sts (tS B md nxm (evS U (.seq a b))) := by
  unfold kSeq at h
  split at h
  · rename_i i o e
    split at h
    · cases h
    rename_i hi
    have hm2 : KeepM B (md.set i (o.getD .F)) := keepM_set hm hi
    obtain ⟨m1, p1⟩ := hb.blk O hm2 h
    refine ⟨m1, PSs.imp p1 fun D0 σ H ⟨en, ts, R, P⟩ => ?_⟩
    rw [evS] at P
    cases a with
    | frz j =>
      cases e
      rw [evS] at P
      exact ⟨en, ts, R.frz _, P⟩
    | fgt j m =>
      cases e
      rw [evS] at P
      exact ⟨en.set i none, ts, R.fgt i m, P⟩
    | _ => cases e
  · split at h
    · rename_i st rest
      split at h
      · rename_i md1 e1
        obtain ⟨m1, p1⟩ := ha.one O hm e1
        obtain ⟨m2, p2⟩ := hb.blk O (m1 md1 rfl) h
        refine ⟨m2, PSs.imp (pss_cons p1 p2) fun D0 σ H ⟨en, ts, R, P⟩ => ⟨en, ts, R, ?_⟩⟩
        rw [evS] at P
        cases ea : evS U a en with
        | nx en1 =>
          rw [ea] at P
          exact fun σ' H' k r => ⟨en1, ts, r, PostS.keep k P⟩
        | _ => rw [ea] at P; exact P
      · rename_i e1
        cases h
        obtain ⟨m1, p1⟩ := ha.one O hm e1
        refine ⟨fun md' e => (nomatch e), PSs.imp (pss_cons p1 (pss_never)) fun D0 σ H ⟨en, ts, R, P⟩ => ⟨en, ts, R, ?_⟩⟩
        rw [evS] at P
        cases ea : evS U a en with
        | nx en1 => trivial
        | _ => rw [ea] at P; exact P
      · cases h
    · cases h
theorem sndS (U : Ev) (a : S) : SndS U a := by
  have mk : ∀ {B : Bx} {C : Ck} {X : Cx} {md : List Md} {st : Stmt} {nxm : Option (List Md)} {m : Sl → SOut}, KeepM B md → (nxm = some md ∧ PS X st (tS B md (some md) m)) → (∀ md', nxm = some md' → KeepM B md') ∧ PS X st (tS B md nxm m) := fun hm ⟨e, p⟩ => by
    subst e
    exact ⟨fun md' e => by cases e; exact hm, p⟩
  have mkn : ∀ {B : Bx} {C : Ck} {X : Cx} {md : List Md} {st : Stmt} {nxm : Option (List Md)} {m : Sl → SOut}, (nxm = none ∧ PS X st (tS B md none m)) → (∀ md', nxm = some md' → KeepM B md') ∧ PS X st (tS B md nxm m) := fun ⟨e, p⟩ => by
    subst e
    exact ⟨fun md' e => (nomatch e), p⟩
  induction a with
  | skip =>
    refine ⟨fun O hm h => ?_, fun O hm h => ?_⟩
    · rw [chk1] at h <;> first | cases h | (intros; rename_i q; cases q)
    · rw [chkB] at h
      unfold kNil at h
      split at h
      · cases h
        refine ⟨fun md' e => by cases e; exact hm, PSs.imp pss_nil fun D0 σ H ⟨en, ts, R, P⟩ => ?_⟩
        rw [evS] at P
        exact P σ H Keep.refl R
      · cases h
  | seq a b iha ihb =>
    refine ⟨fun O hm h => ?_, fun O hm h => ?_⟩
    · rw [chk1] at h <;> first | cases h | (intros; rename_i q; cases q)
    · rw [chkB] at h
      exact seq_s iha ihb O hm h
  | set i e =>
    refine ⟨fun {B C X md st nxm} O hm h => ?_, fun O hm h => ?_⟩
    · rw [chk1] at h
      exact mk (C := C) hm (set_s O h)
    · rw [chkB] at h <;> first | cases h | (intros; rename_i q; cases q)
  | par tg as =>
    refine ⟨fun {B C X md st nxm} O hm h => ?_, fun O hm h => ?_⟩
    · rw [chk1] at h
      exact mk (C := C) hm (par_s O h)
    · rw [chkB] at h <;> first | cases h | (intros; rename_i q; cases q)
  | unp tg e =>
    refine ⟨fun {B C X md st nxm} O hm h => ?_, fun O hm h => ?_⟩
    · rw [chk1] at h
      exact mk (C := C) hm (unp_s O h)
    · rw [chkB] at h <;> first | cases h | (intros; rename_i q; cases q)
  | put o i k e =>
    refine ⟨fun {B C X md st nxm} O hm h => ?_, fun O hm h => ?_⟩
    · cases o with
      | set =>
        rw [chk1] at h
        exact mk (C := C) hm (put_s O h)
      | augAdd =>
        rw [chk1] at h
        exact mk (C := C) hm (aug_s O h)
      | _ => rw [chk1] at h <;> first | cases h | (intros; rename_i q; cases q)
    · rw [chkB] at h <;> first | cases h | (intros; rename_i q; cases q)
  | aug o i e =>
    refine ⟨fun {B C X md st nxm} O hm h => ?_, fun O hm h => ?_⟩
    · cases o with
      | add =>
        rw [chk1] at h
        exact mk (C := C) hm (augN_s O (.inl ⟨rfl, rfl⟩) h)
      | sub =>
        rw [chk1] at h
        exact mk (C := C) hm (augN_s O (.inr ⟨rfl, rfl⟩) h)
      | _ => rw [chk1] at h <;> first | cases h | (intros; rename_i q; cases q)
    · rw [chkB] at h <;> first | cases h | (intros; rename_i q; cases q)
  | exp e =>
    refine ⟨fun {B C X md st nxm} O hm h => ?_, fun O hm h => ?_⟩
    · rw [chk1] at h
      exact mk (C := C) hm (exp_s O h)
    · rw [chkB] at h <;> first | cases h | (intros; rename_i q; cases q)
  | ret e =>
    refine ⟨fun {B C X md st nxm} O hm h => ?_, fun O hm h => ?_⟩
    · rw [chk1] at h
      exact mkn (C := C) (ret_s O hm h)
    · rw [chkB] at h <;> first | cases h | (intros; rename_i q; cases q)
  | retN =>
    refine ⟨fun {B C X md st nxm} O hm h => ?_, fun O hm h => ?_⟩
    · rw [chk1] at h
      exact mkn (C := C) (retN_s hm h)
    · rw [chkB] at h <;> first | cases h | (intros; rename_i q; cases q)
  | ite t a b iha ihb =>
    refine ⟨fun O hm h => ?_, fun O hm h => ?_⟩
    · rw [chk1] at h
      exact ite_s iha ihb O hm h
    · rw [chkB] at h <;> first | cases h | (intros; rename_i q; cases q)
  | «for» tg ik it b ih =>
    refine ⟨fun {B C X md st nxm} O hm h => ?_, fun O hm h => ?_⟩
    · rw [chk1] at h
      exact mk (C := C) hm (for_s ih O hm h)
    · rw [chkB] at h <;> first | cases h | (intros; rename_i q; cases q)
  | whl t b ih =>
    refine ⟨fun {B C X md st nxm} O hm h => ?_, fun O hm h => ?_⟩
    · rw [chk1] at h
      exact mk (C := C) hm (whl_s ih O hm h)
    · rw [chkB] at h <;> first | cases h | (intros; rename_i q; cases q)
  | brk =>
    refine ⟨fun {B C X md st nxm} O hm h => ?_, fun O hm h => ?_⟩
    · rw [chk1] at h
      exact mkn (C := C) (brk_s h)
    · rw [chkB] at h <;> first | cases h | (intros; rename_i q; cases q)
  | cnt =>
    refine ⟨fun {B C X md st nxm} O hm h => ?_, fun O hm h => ?_⟩
    · rw [chk1] at h
      exact mkn (C := C) (cnt_s h)
    · rw [chkB] at h <;> first | cases h | (intros; rename_i q; cases q)
  | raise c as =>
    refine ⟨fun {B C X md st nxm} O hm h => ?_, fun O hm h => ?_⟩
    · rw [chk1] at h
      exact mkn (C := C) (rai_s h)
    · rw [chkB] at h <;> first | cases h | (intros; rename_i q; cases q)
  | _ =>
    refine ⟨fun O hm h => ?_, fun O hm h => ?_⟩
    · rw [chk1] at h <;> first | cases h | (intros; rename_i q; cases q)
    · rw [chkB] at h <;> first | cases h | (intros; rename_i q; cases q)
end Dt
end
section
set_option Elab.async false
set_option linter.all false
set_option maxRecDepth 100000
set_option maxHeartbeats 4000000
/-! Defs by their bodies; the law's own call. -/
namespace Dt
open PySem PySem.Spec PyProof.Rows L2
/-- a def with what its check needs -/
structure DefC where
  name : Str
  params : Arguments
  body : List Stmt
  scope : Scope
  ps : List Str
  N : List Str
  md : List Md
  fn : Fn
  lm : List (Option Md)
def DefC.sig (d : DefC) : FnC := ⟨d.name, d.fn.np, d.fn.ln, d.lm, d.fn.rm⟩
def lmOk : Nat → List (Option Md) → List Md → List Nat → Bool
  | _, [], _, _ => true
  | i, o :: l, m :: ms, kp => (match o with
    | some m0 => decide (m = m0) && decide (i ∈ kp)
    | none => decide (m = .F)) && lmOk (i + 1) l ms kp
  | _, _ :: _, [], _ => false
def lnOf (l : List (Option Md)) : List Nat := (l.zipIdx.filter fun p => p.1.isSome).map (·.2)
def ckOf (sigs : List FnC) (bn : List Str) (d : DefC) : Ck := ⟨d.N, d.scope, d.scope, sigs, bn⟩
def bxOf (d : DefC) : Bx := ⟨d.fn.rm, d.fn.ln, d.md, none⟩
def endOk (rm : Md) : Option (Option (List Md)) → Bool
  | some none => true
  | some (some _) => decide (rm = .F)
  | none => false
def defOk (sigs : List FnC) (bn : List Str) (d : DefC) : Bool :=
  decide (d.ps.length = d.fn.np) && decide (d.lm.length = d.fn.np) && decide (d.N.length = d.fn.ns) && decide (d.md.length = d.fn.ns) && decide (d.fn.np ≤ d.fn.ns) && decide (d.fn.ln = lnOf d.lm) && decide (d.fn.ln.length ≤ 1) && lmOk 0 d.lm d.md d.fn.ln &&
  isFn (ckOf sigs bn d) && !d.scope.isCoroutine && !d.scope.isGenerator && decide d.N.Nodup && decide (d.N.take d.ps.length = d.ps) && (d.ps.all fun x => vis (ckOf sigs bn d) x) && (d.scope.names.all fun y => decide (y.2 ≠ .free)) &&
  endOk d.fn.rm (chkB d.fn.body (bxOf d) (ckOf sigs bn d) d.md d.body)
/-! ### the start -/
theorem start_rep : ∀ {lm : List (Option Md)} {vs : List V} {ds : List D} {md : List Md} {kp : List Nat} {i : Nat}, vs.length = lm.length → ds.length = lm.length → lm.length ≤ md.length → lmOk i lm md kp = true →
    SR md (vs.map some ++ List.replicate (md.length - lm.length) none) (ds.map some ++ List.replicate (md.length - lm.length) none) (argR lm vs ds)
  | [], [], [], md, kp, i, _, _, _, _ => by
    have : ∀ md : List Md, SR md (List.replicate md.length none) (List.replicate md.length none) [] := by
      intro md
      induction md with
      | nil => exact .nil
      | cons m md ih => exact .dead ih
    exact this md
  | o :: l, v :: vs, d :: ds, m :: md, kp, i, h1, h2, h3, h4 => by
    obtain ⟨k1, k2⟩ := Bool.and_eq_true_iff.mp (show (_ && lmOk (i + 1) l md kp) = true from h4)
    have em : o.getD .F = m := by
      cases o with
      | none => exact (of_decide_eq_true k1).symm
      | some m0 => exact (of_decide_eq_true (Bool.and_eq_true_iff.mp k1).1).symm
    have ih := start_rep (lm := l) (vs := vs) (ds := ds) (md := md) (kp := kp) (i := i + 1) (by simpa using h1) (by simpa using h2) (by simpa using h3) k2
    have e : (m :: md).length - (o :: l).length = md.length - l.length := by simp
    rw [e]
    show SR (m :: md) (some v :: _) (some d :: _) ((v, d, o.getD .F) :: argR l vs ds)
    rw [em]
    exact .live ih
  | _ :: _, _, _, [], _, _, _, _, h, _ => by simp at h
  | _ :: _, [], _, _ :: _, _, _, h, _, _, _ => by simp at h
  | _ :: _, _ :: _, [], _ :: _, _, _, _, h, _, _ => by simp at h
  | [], _ :: _, _, _, _, _, h, _, _, _ => by simp at h
  | [], [], _ :: _, _, _, _, _, h, _, _ => by simp at h
theorem lm_none : ∀ {lm : List (Option Md)} {k : Nat} {vs : List V} {ls : List D}, (lm.zipIdx k).filter (fun p => p.1.isSome) = [] → lentR lm vs ls = []
  | [], _, _, _, _ => by unfold lentR; rfl
  | some m :: l, k, vs, ls, h => by
    rw [List.zipIdx_cons, List.filter_cons_of_pos rfl] at h
    cases h
  | none :: l, k, vs, ls, h => by
    rw [List.zipIdx_cons, List.filter_cons_of_neg (by simp)] at h
    cases vs with
    | nil => unfold lentR; rfl
    | cons v vs => exact lm_none (lm := l) (vs := vs) (ls := ls) h
theorem lm_one : ∀ {lm : List (Option Md)} {k j : Nat} {vs : List V} {l0 : D}, vs.length = lm.length → ((lm.zipIdx k).filter (fun p => p.1.isSome)).map (·.2) = [j] → ∃ v m, vs[j - k]? = some v ∧ lm[j - k]? = some (some m) ∧ k ≤ j ∧ lentR lm vs [l0] = [(v, l0, m)]
  | [], _, _, _, _, _, h => by cases h
  | some m :: l, k, j, v :: vs, l0, hl, h => by
    rw [List.zipIdx_cons, List.filter_cons_of_pos rfl, List.map_cons] at h
    obtain ⟨h1, h2⟩ := List.cons.inj h
    have h1 : k = j := h1
    subst h1
    have h3 := List.map_eq_nil_iff.mp h2
    refine ⟨v, m, by simp, by simp, Nat.le_refl _, ?_⟩
    show (v, l0, m) :: lentR l vs [] = _
    rw [lm_none h3]
  | none :: l, k, j, v :: vs, l0, hl, h => by
    rw [List.zipIdx_cons, List.filter_cons_of_neg (by simp)] at h
    obtain ⟨v', m, h1, h2, h3, h4⟩ := lm_one (lm := l) (vs := vs) (l0 := l0) (by simpa using hl) h
    have e : j - k = (j - (k + 1)) + 1 := by omega
    refine ⟨v', m, ?_, ?_, by omega, h4⟩
    · rw [e]; simpa using h1
    · rw [e]; simpa using h2
  | some _ :: _, _, _, [], _, hl, _ => by simp at hl
  | none :: _, _, _, [], _, hl, _ => by simp at hl
/-- the lent roots at the end -/
theorem end_rep {md : List Md} {kp : List Nat} {σ : L2.St} {en : Sl} {ts : List Root} {H : Hp} {lm : List (Option Md)} {vs : List V} {ls : List D} {v : V} {r : D} {rm : Md} (hk : kp = lnOf lm) (h1 : kp.length ≤ 1) (hl : vs.length = lm.length)
    (R : RepS md σ en ((v, r, rm) :: ts) H) (hσ : ∀ j ∈ kp, σ[j]? = (vs[j]?).map some) (hm : ∀ j ∈ kp, md[j]? = (lm[j]?).join) (e : readAll kp en = some ls) : Rep ((v, r, rm) :: (lentR lm vs ls ++ ts)) H := by
  match kp, h1 with
  | [], _ =>
    cases e
    have : lentR lm vs [] = [] := by
      unfold lnOf at hk
      exact lm_none (k := 0) (List.map_eq_nil_iff.mp hk.symm)
    rw [this]
    obtain ⟨rs, S, raw⟩ := R
    exact raw.drop
  | [j], _ =>
    obtain ⟨d, e1, e2⟩ := Option.bind_eq_some_iff.mp (show ((rdS en j).bind fun d => (readAll [] en).map (d :: ·)) = some ls from e)
    cases e2
    obtain ⟨v', m, q1, q2, _, q4⟩ := lm_one (l0 := d) hl hk.symm
    obtain ⟨w, m', rs', k1, k2, k3, _⟩ := R.open e1
    have s := hσ j (List.mem_singleton.mpr rfl)
    rw [k1, show vs[j]? = some v' from q1] at s
    cases s
    have m2 := hm j (List.mem_singleton.mpr rfl)
    rw [k2, show lm[j]? = some (some m) from q2] at m2
    cases m2
    rw [q4]
    have p : ((v', d, m) :: (rs' ++ (v, r, rm) :: ts)).Perm (rs' ++ ((v, r, rm) :: ([(v', d, m)] ++ ts))) := by
      refine List.Perm.trans (List.Perm.cons _ perm_mid) ?_
      refine List.Perm.trans (.swap _ _ _) ?_
      refine List.Perm.trans (List.Perm.cons _ perm_mid.symm) ?_
      exact perm_mid.symm
    exact k3.sub p
  | _ :: _ :: _, h => exact absurd h (by simp)
end Dt
end
section
set_option Elab.async false
set_option linter.all false
set_option maxRecDepth 100000
set_option maxHeartbeats 4000000
/-! Defs: the checker is sound; the program's levels. -/
namespace Dt
open PySem PySem.Spec PyProof.Rows L2
/-- a def by its body, called where no guard runs -/
theorem fn_G {P : Program} {w : World} {K : PySem.W.Frag} {mg : Str → Option Value} {base : Heap} {k : Nat} {f : Addr} {x qual : Str} {params : Arguments} {body : List Stmt} {scope : Scope} {fd : FuncData} {N ps : List Str} {sp : List V → Hp → VK → Prop}
    (F : FunD K x qual params body scope [] [] f fd) (S : FnScope N ps scope) (len : ∀ vs H Q, sp vs H Q → vs.length = ps.length)
    (hbody : ∀ (cdv : Value) (A : Around) (outer : List Env) (s : Shared) (H : Hp) (vs : List V) (Q : VK), A.guards = some [] → Room k (A.deeper (envOfC qual scope s.heap.objs.size f cdv)) → sp vs H Q →
      ∃ t, PSs (cxOf CX0 P w K mg base N qual scope f cdv A outer s H fun _ _ _ => False) body t ∧ t { nx := fun _ H' => Q .non H', rt := Q } (start N vs) H) : FnG P w K mg base (k + 1) f fd ps sp := by
  obtain ⟨oc, od, dV, kV, doc, pm, an, cdv, ct, osl, rfl, lk, hcd, _, _⟩ := F.ex
  refine ⟨len, fun A outer s H args us vs Q room gd en0 bnd rel want => ?_⟩
  have inK : K.In s.heap := en0.mod.kin.keeps fun b o e => (en0.bs b o e).1
  have lim := en0.mod.nolimit.keeps fun b o e => (en0.bs b o e).1
  have kinds : ∀ y ∈ ps.zip us, scope.names.lookup y.1 = some .local ∨ (scope.names.lookup y.1 = some .cell ∧ ((cellsFrom (s.heap.objs.size + 1) scope.names []).lookup y.1).isSome = true) := by
    rintro ⟨n, v⟩ hy
    exact (S.par n (List.of_mem_zip hy).1).imp id fun q => ⟨q, PySem.W.cellsFrom_some _ _ _ (.inl q)⟩
  refine codeAny_call_function room.depth (inK _ _ lk) rfl S.co S.gen rfl (PySem.W.codeRec_of inK hcd) (bnd _ _ _ _ (wpAny_newFunctionEnv_cells S.kind kinds fun env he s1 ic => ?_))
  subst he
  refine ⟨lim.keeps ic.toInCall.keep, codeAny_func ?_⟩
  obtain ⟨t, ht, hq⟩ := hbody cdv A outer s H vs Q gd (room.deeper _) want
  have I : Inv (cxOf CX0 P w K mg base N qual scope f cdv A outer s H fun _ _ _ => False) [] (start N vs) H s1 := inv_start S room.hd en0 (len _ _ _ want) rel ic
  refine wpAny_mono (ht.run [] s1 (start N vs) H _ I hq) (fun fl s' hs => ?_) fun e s' hs => hs
  match fl, hs with
  | .ret u, ⟨v, σ', H', J, rv, q⟩ => exact ⟨v, H', J.os, J.bare, J.base, J.hok, rv, q⟩
  | .next, ⟨σ', H', J, q⟩ => exact ⟨V.non, H', J.os, J.bare, J.base, J.hok, rfl, q⟩
  | .brk, ⟨_, _, _, q⟩ => exact (show False from q).elim
  | .cont, ⟨_, _, _, q⟩ => exact (show False from q).elim
theorem vis_loc {C : Ck} {x : Str} (h : vis C x = true) (nf : ∀ y ∈ C.sc.names, y.2 ≠ .free) : C.sc.names.lookup x = some .local ∨ C.sc.names.lookup x = some .cell := by
  unfold vis at h
  split at h
  · exact .inl (by assumption)
  · exact .inr (by assumption)
  · rename_i e
    exact absurd rfl (nf _ (PySem.mem_of_lookup e))
  · cases h
theorem lmOk_get : ∀ {lm : List (Option Md)} {md : List Md} {kp : List Nat} {i j : Nat} {m : Md}, lmOk i lm md kp = true → lm[j]? = some (some m) → md[j]? = some m
  | [], _, _, _, _, _, _, e => by simp at e
  | o :: l, [], _, _, _, _, h, _ => by cases h
  | o :: l, m0 :: md, kp, i, 0, m, h, e => by
    have e : o = some m := by simpa using e
    subst e
    have := of_decide_eq_true (Bool.and_eq_true_iff.mp (Bool.and_eq_true_iff.mp (show (_ && lmOk (i + 1) l md kp) = true from h)).1).1
    simp [this]
  | o :: l, m0 :: md, kp, i, j + 1, m, h, e => by
    have := lmOk_get (j := j) (Bool.and_eq_true_iff.mp (show (_ && lmOk (i + 1) l md kp) = true from h)).2 (by simpa using e)
    simpa using this
theorem lnOf_mem : ∀ {lm : List (Option Md)} {k j : Nat}, j ∈ ((lm.zipIdx k).filter (fun p => p.1.isSome)).map (·.2) → k ≤ j ∧ ∃ m, lm[j - k]? = some (some m)
  | [], _, _, h => by cases h
  | o :: l, k, j, h => by
    rw [List.zipIdx_cons] at h
    cases o with
    | none =>
      rw [List.filter_cons_of_neg (by simp)] at h
      obtain ⟨h1, m, h2⟩ := lnOf_mem h
      refine ⟨by omega, m, ?_⟩
      have e : j - k = (j - (k + 1)) + 1 := by omega
      rw [e]; simpa using h2
    | some m0 =>
      rw [List.filter_cons_of_pos rfl, List.map_cons] at h
      rcases List.mem_cons.mp h with e | h
      · have e : j = k := e
        subst e
        exact ⟨Nat.le_refl _, m0, by simp⟩
      · obtain ⟨h1, m, h2⟩ := lnOf_mem h
        refine ⟨by omega, m, ?_⟩
        have e : j - k = (j - (k + 1)) + 1 := by omega
        rw [e]; simpa using h2
/-- what the levels stand on: the defs' objects, the names -/
structure Facts (P0 : Prg) (ds : List DefC) (bn : List Str) (K : PySem.W.Frag) (mg : Str → Option Value) : Prop where
  fns : ∀ i : Nat, P0.fns[i]? = (ds[i]?).map DefC.fn
  ok : ∀ d ∈ ds, defOk (ds.map DefC.sig) bn d = true
  bl : ∀ x ∈ bn, mg x = none
  obj : ∀ (i : Nat) d, ds[i]? = some d → ∃ a fd, FunD K d.name d.name d.params d.body d.scope [] [] a fd ∧ mg d.name = some (.ref a) ∧ Binds K fd d.ps []
theorem levels {P0 : Prg} {ds : List DefC} {bn : List Str} {P : Program} {w : World} {K : PySem.W.Frag} {mg : Str → Option Value} {base : Heap} (wf : Nat) (T : Facts P0 ds bn K mg) : ∀ (k : Nat) (i : Nat) (d : DefC) (a : Addr) (fd : FuncData), ds[i]? = some d →
    FunD K d.name d.name d.params d.body d.scope [] [] a fd → FnG P w K mg base k a fd d.ps (spF (run P0 wf k) i d.sig) := by
  intro k
  induction k with
  | zero =>
    intro i d a fd hd F
    have hq := T.ok d (List.mem_of_getElem? hd)
    unfold defOk at hq
    simp only [Bool.and_eq_true, decide_eq_true_eq] at hq
    have hps : d.ps.length = d.fn.np := by
      have := hq.1.1.1.1.1.1.1.1.1.1.1.1.1.1.1
      exact this
    exact ⟨fun vs H Q h => h.1.trans hps.symm, fun A outer s H args us vs Q _ _ _ _ _ h => by
      obtain ⟨_, ds', roots, _, _, h⟩ := h
      exact (show False from h).elim⟩
  | succ k ih =>
    intro i d a fd hd F
    have hq := T.ok d (List.mem_of_getElem? hd)
    unfold defOk at hq
    simp only [Bool.and_eq_true, decide_eq_true_eq, Bool.not_eq_true', List.all_eq_true] at hq
    obtain ⟨⟨⟨⟨⟨⟨⟨⟨⟨⟨⟨⟨⟨⟨⟨q1, q2⟩, q3⟩, q4⟩, q5⟩, q6⟩, q7⟩, q8⟩, q9⟩, q10⟩, q11⟩, q12⟩, q13⟩, q14⟩, q15⟩, q16⟩ := hq
    have S : FnScope d.N d.ps d.scope := ⟨fn_ q9, q10, q11, q12, q13, fun x hx => vis_loc (q14 x hx) q15, q15⟩
    refine fn_G F S (fun vs H Q h => h.1.trans q1.symm) fun cdv A outer s H vs Q gd room h => ?_
    obtain ⟨nxm, hc⟩ : ∃ nxm, chkB d.fn.body (bxOf d) (ckOf (ds.map DefC.sig) bn d) d.md d.body = some nxm := by
      cases hc : chkB d.fn.body (bxOf d) (ckOf (ds.map DefC.sig) bn d) d.md d.body with
      | none => rw [hc] at q16; cases q16
      | some r => exact ⟨r, rfl⟩
    have XO : XOk (ckOf (ds.map DefC.sig) bn d) ⟨run P0 wf k, wf, P0.sub⟩ (Cx.nox (cxOf CX0 P w K mg base d.N d.name d.scope a cdv A outer s H fun _ _ _ => False)) := by
      refine ⟨rfl, q12, rfl, rfl, gd, ?_, fun x hx => T.bl x hx, fun x hx => rfl, rfl, fun f0 d0 e0 => ?_⟩
      · have := room.un
        show (A.deeper (envOfC d.name d.scope s.heap.objs.size a cdv)).units + 200 < cLine
        omega
      · have e1 : ((ds.map DefC.sig)[f0]? : Option FnC) = some d0 := e0
        rw [List.getElem?_map] at e1
        obtain ⟨d1, e2, rfl⟩ := Option.map_eq_some_iff.mp e1
        obtain ⟨a1, fd1, F1, m1, b1⟩ := T.obj f0 d1 e2
        have hq1 := T.ok d1 (List.mem_of_getElem? e2)
        unfold defOk at hq1
        simp only [Bool.and_eq_true, decide_eq_true_eq] at hq1
        exact ⟨a1, k, fd1, d1.ps, m1, F1.kp, b1, hq1.1.1.1.1.1.1.1.1.1.1.1.1.1.1.1, ih f0 d1 a1 fd1 e2 F1, room⟩
    obtain ⟨km, body⟩ := (sndS ⟨run P0 wf k, wf, P0.sub⟩ d.fn.body).blk XO (fun j hj => rfl) hc
    refine ⟨_, PSs.nox body, ?_⟩
    obtain ⟨hv, ds', roots, hl, rep, res⟩ := h
    have hv : vs.length = d.fn.np := hv
    have hl : ds'.length = d.fn.np := hl
    have e : run P0 wf (k + 1) i ds' = endF d.fn.ln (evS ⟨run P0 wf k, wf, P0.sub⟩ d.fn.body (start0 d.fn.ns ds')) := by
      rw [run, T.fns i, hd]
      show (if ds'.length = d.fn.np then _ else _) = _
      rw [if_pos hl]
    rw [e] at res
    have SRs := start_rep (vs := vs) (ds := ds') (hv.trans q2.symm) (hl.trans q2.symm) (by rw [q2, q4]; exact q5) q8
    have ev : L2.start d.N vs = vs.map some ++ List.replicate (d.md.length - d.lm.length) none := by
      unfold L2.start
      rw [q3, q4, hv, q2]
    have ed : start0 d.fn.ns ds' = ds'.map some ++ List.replicate (d.md.length - d.lm.length) none := by
      unfold start0
      rw [q4, hl, q2]
    rw [← ev, ← ed] at SRs
    have mem : ∀ j ∈ d.fn.ln, ∃ m, d.lm[j]? = some (some m) := fun j hj => by
      rw [q6] at hj
      obtain ⟨_, m, h⟩ := lnOf_mem (k := 0) hj
      exact ⟨m, by simpa using h⟩
    have sσ : ∀ {σ' : L2.St}, Keep d.fn.ln (L2.start d.N vs) σ' → ∀ j ∈ d.fn.ln, σ'[j]? = (vs[j]?).map some := fun kσ j hj => by
      obtain ⟨m, hm⟩ := mem j hj
      have lt : j < vs.length := by
        rw [hv, ← q2]
        exact (List.getElem?_eq_some_iff.mp hm).1
      rw [kσ j hj, ev, List.getElem?_append_left (by simpa using lt), List.getElem?_map]
    have sm : ∀ {md' : List Md}, KeepM (bxOf d) md' → ∀ j ∈ d.fn.ln, md'[j]? = (d.lm[j]?).join := fun kmd j hj => by
      obtain ⟨m, hm⟩ := mem j hj
      rw [kmd j hj, hm]
      exact lmOk_get q8 hm
    refine ⟨start0 d.fn.ns ds', roots, ⟨_, SRs, rep⟩, ?_⟩
    cases ex : evS ⟨run P0 wf k, wf, P0.sub⟩ d.fn.body (start0 d.fn.ns ds') with
    | nx en =>
      rw [ex] at res
      unfold endF at res
      simp only at res
      cases hr : readAll d.fn.ln en with
      | none => rw [hr] at res; exact (show False from res).elim
      | some ls =>
        rw [hr] at res
        cases nxm with
        | none => trivial
        | some md' =>
          intro σ' H' kσ R
          rw [hc] at q16
          have erm : d.fn.rm = .F := of_decide_eq_true (show decide (d.fn.rm = .F) = true from q16)
          refine res .non H' ?_
          have R2 : RepS md' σ' en ((.non, .none, d.fn.rm) :: roots) H' := by
            rw [erm]
            exact R.flat fun Z => .non
          exact end_rep (kp := d.fn.ln) q6 q7 (hv.trans q2.symm) R2 (sσ kσ) (sm (km md' rfl)) hr
    | ret d0 en =>
      rw [ex] at res
      unfold endF at res
      simp only at res
      cases hr : readAll d.fn.ln en with
      | none => rw [hr] at res; exact (show False from res).elim
      | some ls =>
        rw [hr] at res
        intro v σ' H' md' kσ kmd R
        exact res v H' (end_rep (kp := d.fn.ln) q6 q7 (hv.trans q2.symm) R (sσ kσ) (sm kmd) hr)
    | brk en => rw [ex] at res; exact (show False from res).elim
    | cnt en => rw [ex] at res; exact (show False from res).elim
    | exc c fs en =>
      rw [ex] at res
      unfold endF at res
      simp only at res
      cases hr : readAll d.fn.ln en with
      | none => rw [hr] at res; exact (show False from res).elim
      | some ls => rw [hr] at res; exact (show False from res).elim
    | bad => rw [ex] at res; exact (show False from res).elim
end Dt
end
section
set_option Elab.async false
set_option linter.all false
set_option maxRecDepth 100000
set_option maxHeartbeats 4000000
/-! The law's own call. -/
namespace Dt
open PySem PySem.Spec PyProof.Rows L2
/-- the written part holds no list -/
def noList (K : PySem.W.Frag) : Bool := K.all fun p => match p.2.cls with
  | .type n => !(n == "list")
  | _ => true
theorem noList_ {K : PySem.W.Frag} (h : noList K = true) {a : Addr} {o : Obj} (e : K.lookup a = some o) : o.cls ≠ .type "list" := by
  intro q
  have m : (a, o) ∈ K := He.lookup_mem e
  have z := List.all_eq_true.mp h (a, o) m
  simp only [q] at z
  cases z
theorem law_callG {P : Program} {w : World} {K : PySem.W.Frag} {mg mb : Str → Option Value} {k : Nat} {fa a : Addr} {fd : FuncData} {x : Str} {sp : List V → Hp → VK → Prop} {s1 : Shared} {vs : List Value} {ns : List Int}
    (inK : K.In s1.heap) (g1 : s1.heap.Ns mainGlobals mg) (g2 : s1.heap.Ns builtinsNs mb) (g3 : ∀ x : Str, x ≠ "__name__" → mb x = bootBuiltins x) (g4 : s1.heap.NoLimit) (g5 : s1.gens = #[])
    (at1 : s1.heap.get? a = some { cls := .type "list", data := .seq vs.toArray }) (isI : IntsAre vs ns) (sz : ns.length ≤ sizeLine) (room : Room k callerA) (nl : noList K = true)
    (F : ∀ base : Heap, K.In base → base.Ns mainGlobals mg → FnG P w K mg base k fa fd [x] sp) (bnd : ∀ (s : Shared) (u : Value), BindsTo s fd ⟨[u], []⟩ [(x, u)])
    (want : ∀ (H : Hp) (o : Obj), H a = some (.frz o (.lst (ns.map V.int))) → sp [.ref a] H fun v _ => v = .bl true) :
    codeAny (model P w) callerA (.call (.ref fa) ⟨[.ref a], []⟩) (fun r s' => r = .ok (.ret (.bool true)) ∧ OldK s1.heap s'.heap ∧ s'.os = s1.os ∧ AllBare s'.gens) s1 := by
  have rv := vals_ints isI
  have noK : K.lookup a = none := by
    cases hk : K.lookup a with
    | none => rfl
    | some o =>
      have e := inK a o hk
      rw [at1] at e
      cases e
      exact absurd rfl (noList_ nl hk)
  generalize hob : ({ cls := .type "list", data := .seq vs.toArray } : Obj) = ob at at1
  let H : Hp := fun b => if b = a then some (.frz ob (.lst (ns.map V.int))) else none
  have Ha : H a = some (.frz ob (.lst (ns.map V.int))) := if_pos rfl
  have Hn : ∀ {b : Addr}, b ≠ a → H b = none := fun h => if_neg h
  have hok : HOk P w H s1.heap := fun b u z => by
    by_cases e : b = a
    · subst e
      rw [Ha] at z
      cases z
      subst hob
      exact ⟨at1, by rw [List.length_map]; exact sz, vs, _, rv, at1⟩
    · rw [Hn e] at z; cases z
  have low : ∀ {b : Addr} {o : Obj}, s1.heap.get? b = some o → b ≠ a → (hidT s1.heap H).get? b = some o := fun e n => hidT_get e (Hn n)
  have ns1 : ∀ {b : Addr} {m : Str → Option Value}, s1.heap.Ns b m → (hidT s1.heap H).Ns b m := by
    rintro b m ⟨o, es, ep, e, d, r⟩
    refine ⟨o, es, ep, low e fun z => ?_, d, r⟩
    subst z
    rw [at1] at e
    cases e
    subst hob
    cases d
  have hK2 : K.In (hidT s1.heap H) := fun b o e => low (inK b o e) fun z => by
    rw [z, noK] at e
    cases e
  have hM : Mod K mg (hidT s1.heap H) := ⟨hK2, ns1 g1, ⟨mb, ns1 g2, g3⟩, g4.elim fun mc q => ⟨mc, ns1 q.1, q.2⟩⟩
  have en0 : Env0 P w K mg (hidT s1.heap H) callerA [] s1 H := ⟨rfl, hM, fun b o e => of_hidT e, Nat.le_of_eq (hidT_size _ _), trivial, fun b q => (nomatch (show b ∈ ([] : List Addr) from q)), hok, .of_eq g5⟩
  refine codeAny_mono ((F _ hK2 (ns1 g1)).run callerA [] s1 H ⟨[.ref a], []⟩ [.ref a] [.ref a] _ room rfl en0 (bnd s1 (.ref a)) (.cons rfl .nil) (want H ob Ha)) fun r s' h => ?_
  match r, h with
  | .error e, h => exact (show False from h).elim
  | .ok .next, h => exact (show False from h).elim
  | .ok .brk, h => exact (show False from h).elim
  | .ok .cont, h => exact (show False from h).elim
  | .ok (.ret u), ⟨v, H', os, bare, un, hok2, rr, q⟩ =>
    have q : v = .bl true := q
    subst q
    cases (show u = Value.bool true from rr)
    refine ⟨rfl, OldK.of_keep fun b o e => ?_, os, bare⟩
    by_cases z : b = a
    · subst z
      have fz := un.frzs b ob _ Ha
      have h2 := (hok2 b _ fz).1
      rw [at1] at e
      cases e
      exact h2
    · exact un.keep b o e (Hn z) (fun q => nomatch (show b ∈ ([] : List Addr) from q)) (fun q => nomatch q)
theorem walk_G {l : PySem.W.OpenLaw} {n k : Nat} {q : Program} {loose : List Str} {XP : (Str → Option Value) → Heap → Prop} {YP : World → Heap → Prop} {d : DefRec} {x : Str}
    (hn : l.most = some n) (hn2 : n ≤ sizeLine) (hdf : d.params.defaults = []) (room : Room k callerA)
    (F : ∀ (w : World) (mg : Str → Option Value) (fa : Addr) (h : Heap), YP w h → h.Ns mainGlobals mg → mg d.name = some (.ref fa) →
      ∃ (K : PySem.W.Frag) (fd : FuncData) (sp : List V → Hp → VK → Prop), K.In h ∧ noList K = true ∧ (∀ (s : Shared) (u : Value), BindsTo s fd ⟨[u], []⟩ [(x, u)]) ∧
        (∀ (H : Hp) (a : Addr) (ns : List Int) (o : Obj), ns.length ≤ n → H a = some (.frz o (.lst (ns.map V.int))) → sp [.ref a] H fun v _ => v = .bl true) ∧
        ∀ base : Heap, K.In base → base.Ns mainGlobals mg → FnG l.prog w K mg base k fa fd [x] sp) :
    PySem.W.WalkO q loose XP YP l.row.toRowW d [] (fun f vs => PySem.call f vs) := by
  refine Att.attach_call hn hdf fun w s₀ s₁ mg mb fa o pm cd doc a vs ns G Y ho hd hcd hmg hobj hints hlen hg => ?_
  obtain ⟨K, fd, sp, inK, nl, bnd, want, fnG⟩ := F w mg fa _ Y G.T.g hmg
  exact law_callG inK G.T.g G.T.b G.T.builtins G.T.nolimit hg hobj hints (Nat.le_trans hlen hn2) room nl fnG bnd fun H o e => want H a ns o hlen e
/-- the law by its meaning -/
theorem law_want {P0 : Prg} {wf k i : Nat} {d : DefC} {ns : List Int} (h1 : d.fn.np = 1) (hlm : d.lm = [none]) (hrm : d.fn.rm = .F) (h : ∃ ls, run P0 wf k i [.list (ns.map .int)] = .ret (.bool true) ls) (H : Hp) (a : Addr) (o : Obj) (e : H a = some (.frz o (.lst (ns.map V.int)))) :
    spF (run P0 wf k) i d.sig [.ref a] H fun v _ => v = .bl true := by
  obtain ⟨ls, h⟩ := h
  refine ⟨h1.symm, [.list (ns.map .int)], [], h1.symm, ?_, ?_⟩
  · show Rep (argR d.lm [.ref a] [.list (ns.map .int)] ++ []) H
    rw [hlm]
    refine ⟨fun _ => False, [], .cons (f := []) ⟨.lst (.inr ⟨o, e⟩) ?_, rfl⟩ .nil, List.nodup_nil, (fun _ q => nomatch q), fun _ q => q.elim⟩
    induction ns with
    | nil => exact .nil
    | cons n ns ih =>
      have aux : ∀ ns : List Int, RdA H (fun _ => False) (ns.map V.int) (ns.map PyData.int) := by
        intro ns
        induction ns with
        | nil => exact .nil
        | cons n ns ih => exact .cons (.int n) ih
      exact aux _
  · rw [h]
    intro v H' R
    have R : Rep ((v, .bool true, d.fn.rm) :: (lentR d.lm [.ref a] ls ++ [])) H' := R
    rw [hrm] at R
    obtain ⟨Z, fp, z, w⟩ := R.head
    exact vw_bl w.vw
end Dt
end
section
set_option Elab.async false
set_option linter.all false
set_option maxRecDepth 100000
set_option maxHeartbeats 4000000
/-! From the head's facts to the law. -/
namespace Dt
open PySem PySem.Spec PyProof.Rows L2
def DefC.dd (d : DefC) : He.DefD := ⟨(d.name, none), d.name, d.name, d.params, d.body, d.scope, [], []⟩
def DefC.Bnd (d : DefC) : Prop := ∀ (kV doc pm : Value) (an : Option Addr) (cdv ct : Value) (us : List Value), us.length = d.ps.length → bindArgs (PySem.W.fnOf d.name d.name d.params d.body d.scope .none kV doc pm an cdv ct) ⟨us, []⟩ = pure (d.ps.zip us)
theorem def_of {ds : List DefC} {fa : List He.Fa} {K : PySem.W.Frag} (c : He.SaysD fa (ds.map DefC.dd) K) {d : DefC} (hd : d ∈ ds) : ∃ fd, FunD K d.name d.name d.params d.body d.scope [] [] (He.ga K d.name) fd :=
  c.defs (d := d.dd) (List.mem_map.mpr ⟨d, hd, rfl⟩)
theorem facts_of {P0 : Prg} {ds : List DefC} {bn : List Str} {fa : List He.Fa} {K : PySem.W.Frag} {h : Heap} {mg : Str → Option Value} (hf : P0.fns = ds.map DefC.fn) (c : He.SaysD fa (ds.map DefC.dd) K) (inK : K.In h) (G : h.Ns mainGlobals mg)
    (ok : ds.all (fun d => defOk (ds.map DefC.sig) bn d) = true) (bl : ∀ x ∈ bn, He.Fa.free x ∈ fa) (gl : ∀ d ∈ ds, He.Fa.glo d.name ∈ fa) (bd : ∀ d ∈ ds, d.Bnd) : Facts P0 ds bn K mg where
  fns := fun i => by rw [hf, List.getElem?_map]
  ok := fun d hd => List.all_eq_true.mp ok d hd
  bl := fun x hx => He.free_ok inK G (c.facts (bl x hx))
  obj := fun i d e => by
    have hd := List.mem_of_getElem? e
    obtain ⟨fd, F⟩ := def_of c hd
    exact ⟨_, fd, F, He.glo_ok inK G (c.facts (gl d hd)), F.bindsN (bd d hd)⟩
/-- the goal that the head leaves -/
theorem law_end {l : PySem.W.OpenLaw} {q : Program} {loose : List Str} {XP : (Str → Option Value) → Heap → Prop} {d0 : DefRec} {ds : List DefC} {bn : List Str} {fa : List He.Fa} {m : Nat} {ex : PySem.W.Frag → Bool} {i : Nat} {d : DefC} {n k : Nat} {x : Str} (P0 : Prg) (wf : Nat)
    (hn : l.most = some n) (hn2 : n ≤ sizeLine) (hdf : d0.params.defaults = []) (room : Room k callerA) (hname : d0.name = d.name) (hex : ∀ K, ex K = true → noList K = true)
    (hf : P0.fns = ds.map DefC.fn) (ok : ds.all (fun d => defOk (ds.map DefC.sig) bn d) = true) (bl : ∀ x ∈ bn, He.Fa.free x ∈ fa) (gl : ∀ d ∈ ds, He.Fa.glo d.name ∈ fa) (bd : ∀ d ∈ ds, d.Bnd)
    (hi : ds[i]? = some d) (hps : d.ps = [x]) (h1 : d.fn.np = 1) (hlm : d.lm = [none]) (hrm : d.fn.rm = .F)
    (main : ∀ ns : List Int, ns.length ≤ n → ∃ ls, run P0 wf k i [.list (ns.map .int)] = .ret (.bool true) ls) :
    PySem.W.WalkO q loose XP (He.hookX m fa (ds.map DefC.dd) [] [] ex).says l.row.toRowW d0 [] (fun f vs => PySem.call f vs) := by
  refine walk_G (k := k) (x := x) hn hn2 hdf room fun w mg fa0 h Y G hmg => ?_
  obtain ⟨K, inK, c⟩ := Y
  have hd := List.mem_of_getElem? hi
  obtain ⟨fd, F⟩ := def_of c.t.d hd
  have e : mg d.name = some (.ref (He.ga K d.name)) := He.glo_ok inK G (c.t.d.facts (gl d hd))
  rw [hname, e] at hmg
  cases hmg
  refine ⟨K, fd, _, inK, hex K c.more, fun s u => ?_, fun H a ns o hl e => law_want h1 hlm hrm (main ns hl) H a o e, fun base inB GB => ?_⟩
  · have := F.bindsA (bd d hd) s [u] (by rw [hps]; rfl)
    rw [hps] at this
    exact this
  · have := levels (P := l.prog) (w := w) (base := base) wf (facts_of (P0 := P0) hf c.t.d inB GB ok bl gl bd) k i d _ fd hi F
    rw [hps] at this
    exact this
end Dt
end
section
set_option Elab.async false
set_option linter.all false
set_option maxRecDepth 100000
set_option maxHeartbeats 4000000
/-! Reckoning with the meaning: equations for rewriting, loops. -/
namespace Dt
open PySem PySem.Spec PyProof.Rows L2
section
variable {V : Ev} {σ : Sl}
theorem evT_op {o fr as} : evT V (.op o fr as) σ = (evE V (.op o fr as) σ).bind fun d σ => ofO (truthy d) σ := evT_gen rfl σ
theorem evT_call {f as} : evT V (.call f as) σ = (evE V (.call f as) σ).bind fun d σ => ofO (truthy d) σ := evT_gen rfl σ
theorem evT_var {i} : evT V (.var i) σ = (evE V (.var i) σ).bind fun d σ => ofO (truthy d) σ := evT_gen rfl σ
theorem evT_bl {b} : evT V (.bl b) σ = .ok b σ := by rw [evT_gen rfl, evE]; rfl
theorem evT_and {a b} : evT V (.and a b) σ = (evT V a σ).bind fun c σ => if c then evT V b σ else .ok false σ := by rw [evT]
theorem evT_or {a b} : evT V (.or a b) σ = (evT V a σ).bind fun c σ => if c then .ok true σ else evT V b σ := by rw [evT]
theorem evT_not {a} : evT V (.not a) σ = (evT V a σ).bind fun c σ => .ok (!c) σ := by rw [evT]
theorem evE_var {i} : evE V (.var i) σ = ofO (rdS σ i) σ := by rw [evE]
theorem evE_non : evE V .non σ = .ok .none σ := by rw [evE]
theorem evE_bl {b} : evE V (.bl b) σ = .ok (.bool b) σ := by rw [evE]
theorem evE_int {i} : evE V (.int i) σ = .ok (.int i) σ := by rw [evE]
theorem evE_str {x} : evE V (.str x) σ = .ok (.str x) σ := by rw [evE]
theorem evE_op {o fr as} : evE V (.op o fr as) σ = (evL V as σ).bind fun ds σ => ofO (opR o fr ds) σ := by rw [evE]
theorem evE_and {a b} : evE V (.and a b) σ = (evE V a σ).bind fun x σ => match x with | .bool true => evE V b σ | .bool false => .ok (.bool false) σ | _ => .bad := by
  rw [evE]
  all_goals congr 1
theorem evE_or {a b} : evE V (.or a b) σ = (evE V a σ).bind fun x σ => match x with | .bool true => .ok (.bool true) σ | .bool false => evE V b σ | _ => .bad := by
  rw [evE]
  all_goals congr 1
theorem evE_not {a} : evE V (.not a) σ = (evE V a σ).bind fun x σ => match x with | .bool b => .ok (.bool (!b)) σ | _ => .bad := by
  rw [evE]
  all_goals congr 1
theorem evE_ite {t a b} : evE V (.ite t a b) σ = (evT V t σ).bind fun c σ => if c then evE V a σ else evE V b σ := by rw [evE]
theorem evE_tup {as} : evE V (.tup as) σ = (evL V as σ).bind fun ds σ => if ds.length ≤ sizeLine then .ok (.tuple ds) σ else .bad := by rw [evE]
theorem evE_lst {m as} : evE V (.lst m as) σ = (evL V as σ).bind fun ds σ => if ds.length ≤ sizeLine then .ok (.list ds) σ else .bad := by rw [evE]
theorem evE_dsp {ks as} : evE V (.dsp ks as) σ = (evL V as σ).bind fun ds σ => if ks.length = ds.length then .ok (.dict ((ks.map .str).zip ds)) σ else .bad := by rw [evE]
theorem evE_call {f as} : evE V (.call f as) σ = (evL V as σ).bind fun ds σ => callO V.F f (lnts as) ds σ := by rw [evE]
theorem evE_mut {o i as} : evE V (.mut o i as) σ = if isLs σ i then (evL V as σ).bind fun ds σ => mutO o i ds σ else .bad := by rw [evE]
theorem evE_lc {own tg ik it c m e} : evE V (.lc own tg ik it c m e) σ = ((evL V it σ).bind fun ds σ => items1 ik ds σ).bind fun items σ => runG own .list (turnG own tg (evT V c) (app1 (evE V e))) [] items σ := by rw [evE]
theorem evE_dc {own tg ik it c k e} : evE V (.dc own tg ik it c k e) σ = ((evL V it σ).bind fun ds σ => items1 ik ds σ).bind fun items σ => runG own .dict (turnG own tg (evT V c) (put1 (evE V k) (evE V e))) [] items σ := by rw [evE]
/-- the second clause's own loop -/
def inStep (V : Ev) (own1 : List Nat) (tg1 : Tg) (ik1 : Ik) (it1 c1 e : E) (acc : List D) (σ : Sl) : Out (List D) := ((evL V it1 σ).bind fun ds σ => items1 ik1 ds σ).bind fun items1 σ =>
  (loopG (turnG own1 tg1 (evT V c1) (app1 (evE V e))) items1 acc σ).bind fun acc σ => .ok acc (wipeD σ own1)
theorem evE_lc2 {own tg ik it c own1 tg1 ik1 it1 c1 m e} : evE V (.lc2 own tg ik it c own1 tg1 ik1 it1 c1 m e) σ = ((evL V it σ).bind fun ds σ => items1 ik ds σ).bind fun items σ =>
      runG own .list (turnG own tg (evT V c) (inStep V own1 tg1 ik1 it1 c1 e)) [] items σ := by
  rw [evE]
  rfl
theorem evL_nil : evL V .nil σ = .ok [] σ := by rw [evL]
theorem evL_pk {i r} : evL V (.cons (.pk i) r) σ = if (rdS σ i).isSome then (evL V r σ).bind fun ds σ => (ofO (rdS σ i) σ).bind fun d σ => .ok (d :: ds) σ else .bad := by rw [evL]
theorem evL_lnt {i r} : evL V (.cons (.lnt i) r) σ = if (rdS σ i).isSome then (evL V r σ).bind fun ds σ => (ofO (rdS σ i) σ).bind fun d σ => .ok (d :: ds) σ else .bad := by rw [evL]
theorem evL_var {i r} : evL V (.cons (.var i) r) σ = (evE V (.var i) σ).bind fun d σ => (evL V r σ).bind fun ds σ => .ok (d :: ds) σ := evL_cons rfl σ
theorem evL_non {r} : evL V (.cons .non r) σ = (evE V .non σ).bind fun d σ => (evL V r σ).bind fun ds σ => .ok (d :: ds) σ := evL_cons rfl σ
theorem evL_bl {b r} : evL V (.cons (.bl b) r) σ = (evE V (.bl b) σ).bind fun d σ => (evL V r σ).bind fun ds σ => .ok (d :: ds) σ := evL_cons rfl σ
theorem evL_int {b r} : evL V (.cons (.int b) r) σ = (evE V (.int b) σ).bind fun d σ => (evL V r σ).bind fun ds σ => .ok (d :: ds) σ := evL_cons rfl σ
theorem evL_str {b r} : evL V (.cons (.str b) r) σ = (evE V (.str b) σ).bind fun d σ => (evL V r σ).bind fun ds σ => .ok (d :: ds) σ := evL_cons rfl σ
theorem evL_op {o fr as r} : evL V (.cons (.op o fr as) r) σ = (evE V (.op o fr as) σ).bind fun d σ => (evL V r σ).bind fun ds σ => .ok (d :: ds) σ := evL_cons rfl σ
theorem evL_tup {as r} : evL V (.cons (.tup as) r) σ = (evE V (.tup as) σ).bind fun d σ => (evL V r σ).bind fun ds σ => .ok (d :: ds) σ := evL_cons rfl σ
theorem evL_lst {m as r} : evL V (.cons (.lst m as) r) σ = (evE V (.lst m as) σ).bind fun d σ => (evL V r σ).bind fun ds σ => .ok (d :: ds) σ := evL_cons rfl σ
theorem evL_call {f as r} : evL V (.cons (.call f as) r) σ = (evE V (.call f as) σ).bind fun d σ => (evL V r σ).bind fun ds σ => .ok (d :: ds) σ := evL_cons rfl σ
theorem evL_lc {own tg ik it c m e r} : evL V (.cons (.lc own tg ik it c m e) r) σ = (evE V (.lc own tg ik it c m e) σ).bind fun d σ => (evL V r σ).bind fun ds σ => .ok (d :: ds) σ := evL_cons rfl σ
theorem evL_lc2 {own tg ik it c own1 tg1 ik1 it1 c1 m e r} : evL V (.cons (.lc2 own tg ik it c own1 tg1 ik1 it1 c1 m e) r) σ = (evE V (.lc2 own tg ik it c own1 tg1 ik1 it1 c1 m e) σ).bind fun d σ => (evL V r σ).bind fun ds σ => .ok (d :: ds) σ := evL_cons rfl σ
theorem evL_dc {own tg ik it c k e r} : evL V (.cons (.dc own tg ik it c k e) r) σ = (evE V (.dc own tg ik it c k e) σ).bind fun d σ => (evL V r σ).bind fun ds σ => .ok (d :: ds) σ := evL_cons rfl σ
theorem evL_ite {t a b r} : evL V (.cons (.ite t a b) r) σ = (evE V (.ite t a b) σ).bind fun d σ => (evL V r σ).bind fun ds σ => .ok (d :: ds) σ := evL_cons rfl σ
theorem evL_and {a b r} : evL V (.cons (.and a b) r) σ = (evE V (.and a b) σ).bind fun d σ => (evL V r σ).bind fun ds σ => .ok (d :: ds) σ := evL_cons rfl σ
theorem evL_or {a b r} : evL V (.cons (.or a b) r) σ = (evE V (.or a b) σ).bind fun d σ => (evL V r σ).bind fun ds σ => .ok (d :: ds) σ := evL_cons rfl σ
theorem evL_not {a r} : evL V (.cons (.not a) r) σ = (evE V (.not a) σ).bind fun d σ => (evL V r σ).bind fun ds σ => .ok (d :: ds) σ := evL_cons rfl σ
theorem bind_ok {α β : Type} {a : α} {f : α → Sl → Out β} : (Out.ok a σ).bind f = f a σ := id rfl
theorem ofE_ok {α : Type} {a : α} {f : α → Sl → SOut} : SOut.ofE (.ok a σ) f = f a σ := id rfl
theorem ofO_some {α : Type} {a : α} : ofO (some a) σ = .ok a σ := id rfl
theorem next_nx {f : Sl → SOut} : SOut.next (.nx σ) f = f σ := id rfl
theorem next_ret {d : D} {f : Sl → SOut} : SOut.next (.ret d σ) f = .ret d σ := id rfl
theorem rdS_0 {o : Option D} : rdS (o :: σ) 0 = o := id rfl
theorem rdS_s {o : Option D} {i : Nat} : rdS (o :: σ) (i + 1) = rdS σ i := id rfl
theorem evS_seq {a b} : evS V (.seq a b) σ = (evS V a σ).next fun σ => evS V b σ := by rw [evS]
theorem evS_skip : evS V .skip σ = .nx σ := by rw [evS]
theorem evS_frz {i} : evS V (.frz i) σ = .nx σ := by rw [evS]
theorem evS_set {i e} : evS V (.set i e) σ = SOut.ofE (evE V e σ) fun d σ => .nx (σ.set i (some d)) := by rw [evS]
theorem evS_exp {e} : evS V (.exp e) σ = SOut.ofE (evE V e σ) fun _ σ => .nx σ := by rw [evS]
theorem evS_ret {e} : evS V (.ret e) σ = SOut.ofE (evE V e σ) fun d σ => .ret d σ := by rw [evS]
theorem evS_ite {t a b} : evS V (.ite t a b) σ = SOut.ofE (evT V t σ) fun c σ => if c then evS V a σ else evS V b σ := by rw [evS]
theorem evS_par {tg as} : evS V (.par tg as) σ = SOut.ofE (evL V as σ) fun ds σ => (match asgT tg (.tuple ds) σ with | some σ => .nx σ | none => .bad) := by
  rw [evS]
  all_goals congr 1
theorem evS_putS {i k e} : evS V (.put .set i k e) σ = SOut.ofE (evE V e σ) fun d σ => if (rdS σ i).isSome then SOut.ofE (evE V k σ) fun kd σ => SOut.ofE (mutO .set i [kd, d] σ) fun _ σ => .nx σ else .bad := by rw [evS]
theorem evS_putA {i k e} : evS V (.put .augAdd i k e) σ = if (rdS σ i).isSome then SOut.ofE (evE V k σ) fun kd σ => SOut.ofE (evE V e σ) fun d σ => SOut.ofE (mutO .augAdd i [kd, d] σ) fun _ σ => .nx σ else .bad := by
  rw [evS]
  intro z
  cases z
def forF (V : Ev) (tg : Tg) (b : S) (d : D) (σ : Sl) : SOut := match asgT tg d σ with
  | some σ => evS V b σ
  | none => .bad
theorem evS_for {tg ik it b} : evS V (.for tg ik it b) σ = SOut.ofE (evL V it σ) fun ds σ => SOut.ofE (items1 ik ds σ) fun items σ => forLoop (forF V tg b) items σ := by
  rw [evS]
  all_goals congr 1
/-- a for whose turns end as usual, with an invariant -/
theorem for_inv {f : D → Sl → SOut} (Inv : List D → Sl → Prop) : ∀ {items : List D} {σ : Sl}, Inv items σ → (∀ d rest σ, (d :: rest).length ≤ items.length → Inv (d :: rest) σ → ∃ σ', (f d σ = .nx σ' ∨ f d σ = .cnt σ') ∧ Inv rest σ') → ∃ σ', forLoop f items σ = .nx σ' ∧ Inv [] σ'
  | [], σ, h, _ => ⟨σ, rfl, h⟩
  | d :: ds, σ, h, step => by
    obtain ⟨σ1, e, h1⟩ := step d ds σ (Nat.le_refl _) h
    obtain ⟨σ2, e2, h2⟩ := for_inv Inv (items := ds) h1 fun d r σ hl h => step d r σ (Nat.le_trans hl (Nat.le_succ _)) h
    refine ⟨σ2, ?_, h2⟩
    rw [forLoop]
    rcases e with e | e <;> rw [e] <;> exact e2
/-- a comprehension of pure parts -/
theorem loop_pure {own : List Nat} {tg : Tg} {c : Sl → Out Bool} {e : Sl → Out D} {p : D → Bool} {f : D → D} {w0 : Sl} : ∀ {items : List D} {acc : List D} {σ : Sl}, wipeD σ own = w0 → acc.length + items.length ≤ sizeLine →
    (∀ d ∈ items, ∃ σ1, asgT tg d w0 = some σ1 ∧ wipeD σ1 own = w0 ∧ c σ1 = .ok (p d) σ1 ∧ (p d = true → e σ1 = .ok (f d) σ1)) → ∃ σ2, loopG (turnG own tg c (app1 e)) items acc σ = .ok (acc ++ (items.filter p).map f) σ2 ∧ wipeD σ2 own = w0
  | [], acc, σ, h, _, _ => ⟨σ, by rw [loopG]; simp, h⟩
  | d :: ds, acc, σ, h, hl, k => by
    obtain ⟨σ1, a1, a2, a3, a4⟩ := k d (List.mem_cons_self ..)
    have hk : ∀ d ∈ ds, _ := fun d m => k d (List.mem_cons_of_mem _ m)
    rw [List.length_cons] at hl
    cases hp : p d with
    | false =>
      have t : turnG own tg c (app1 e) d acc σ = .ok acc σ1 := by
        unfold turnG
        rw [h, a1]
        simp only [a3, hp, noX, Out.bind, Bool.false_eq_true, if_false]
      obtain ⟨σ2, e2, h2⟩ := loop_pure (items := ds) (acc := acc) (σ := σ1) a2 (by omega) hk
      refine ⟨σ2, ?_, h2⟩
      rw [loopG, t]
      show loopG _ ds acc σ1 = _
      rw [e2, List.filter_cons_of_neg (by rw [hp]; decide)]
    | true =>
      have t : turnG own tg c (app1 e) d acc σ = .ok (acc ++ [f d]) σ1 := by
        unfold turnG
        rw [h, a1]
        simp only [a3, hp, noX, Out.bind, if_true, app1, a4 hp]
        rw [if_pos (by omega)]
      obtain ⟨σ2, e2, h2⟩ := loop_pure (items := ds) (acc := acc ++ [f d]) (σ := σ1) a2 (by simp; omega) hk
      refine ⟨σ2, ?_, h2⟩
      rw [loopG, t]
      show loopG _ ds (acc ++ [f d]) σ1 = _
      rw [e2, List.filter_cons_of_pos hp]
      simp
theorem run_pure {own : List Nat} {tg : Tg} {c : Sl → Out Bool} {e : Sl → Out D} {items : List D} (p : D → Bool) (f : D → D) {σ : Sl} {w0 : Sl} (h : wipeD σ own = w0) (hl : items.length ≤ sizeLine)
    (k : ∀ d ∈ items, ∃ σ1, asgT tg d w0 = some σ1 ∧ wipeD σ1 own = w0 ∧ c σ1 = .ok (p d) σ1 ∧ (p d = true → e σ1 = .ok (f d) σ1)) : runG own .list (turnG own tg c (app1 e)) [] items σ = .ok (.list ((items.filter p).map f)) w0 := by
  obtain ⟨σ2, e2, h2⟩ := loop_pure (acc := []) h (by simpa using hl) k
  unfold runG
  rw [e2]
  show Out.ok _ (wipeD σ2 own) = _
  rw [h2, List.nil_append]
/-- a comprehension with an invariant -/
theorem loop_inv {α : Type} {own : List Nat} {tg : Tg} {c : Sl → Out Bool} {e : α → Sl → Out α} {w0 : Sl} (K : List D → α → Prop) : ∀ {items : List D} {acc : α} {σ : Sl}, wipeD σ own = w0 → K items acc →
    (∀ d rest acc, K (d :: rest) acc → ∃ σ1 b σ2, asgT tg d w0 = some σ1 ∧ c σ1 = .ok b σ2 ∧ (b = false → wipeD σ2 own = w0 ∧ K rest acc) ∧ (b = true → ∃ acc' σ3, e acc σ2 = .ok acc' σ3 ∧ wipeD σ3 own = w0 ∧ K rest acc')) →
    ∃ accF σ2, loopG (turnG own tg c e) items acc σ = .ok accF σ2 ∧ wipeD σ2 own = w0 ∧ K [] accF
  | [], acc, σ, h, hk, _ => ⟨acc, σ, by rw [loopG], h, hk⟩
  | d :: ds, acc, σ, h, hk, step => by
    obtain ⟨σ1, b, σ2, a1, a2, a3, a4⟩ := step d ds acc hk
    cases b with
    | false =>
      obtain ⟨h3, k3⟩ := a3 rfl
      have t : turnG own tg c e d acc σ = .ok acc σ2 := by
        unfold turnG
        rw [h, a1]
        simp only [a2, noX, Out.bind, Bool.false_eq_true, if_false]
      obtain ⟨accF, σF, e1, e2, e3⟩ := loop_inv K (items := ds) h3 k3 step
      refine ⟨accF, σF, ?_, e2, e3⟩
      rw [loopG, t]
      exact e1
    | true =>
      obtain ⟨acc', σ3, e0, h3, k3⟩ := a4 rfl
      have t : turnG own tg c e d acc σ = .ok acc' σ3 := by
        unfold turnG
        rw [h, a1]
        simp only [a2, noX, Out.bind, if_true, e0]
      obtain ⟨accF, σF, e1, e2, e3⟩ := loop_inv K (items := ds) h3 k3 step
      refine ⟨accF, σF, ?_, e2, e3⟩
      rw [loopG, t]
      exact e1
theorem run_inv {α : Type} {own : List Nat} {tg : Tg} {c : Sl → Out Bool} {e : α → Sl → Out α} {w0 : Sl} {dat : α → D} {items : List D} {acc : α} {σ : Sl} (K : List D → α → Prop) (h : wipeD σ own = w0) (hk : K items acc)
    (step : ∀ d rest acc, K (d :: rest) acc → ∃ σ1 b σ2, asgT tg d w0 = some σ1 ∧ c σ1 = .ok b σ2 ∧ (b = false → wipeD σ2 own = w0 ∧ K rest acc) ∧ (b = true → ∃ acc' σ3, e acc σ2 = .ok acc' σ3 ∧ wipeD σ3 own = w0 ∧ K rest acc')) :
    ∃ accF, runG own dat (turnG own tg c e) acc items σ = .ok (dat accF) w0 ∧ K [] accF := by
  obtain ⟨accF, σ2, e1, e2, e3⟩ := loop_inv K h hk step
  refine ⟨accF, ?_, e3⟩
  unfold runG
  rw [e1]
  show Out.ok _ (wipeD σ2 own) = _
  rw [e2]
/-- a dict by a comprehension over ints: its keys -/
def dedup : List Int → List Int → List Int
  | ks, [] => ks
  | ks, x :: r => dedup (if x ∈ ks then ks else ks ++ [x]) r
theorem dedup_mem : ∀ {r ks : List Int} {y : Int}, y ∈ dedup ks r ↔ y ∈ ks ∨ y ∈ r
  | [], ks, y => by simp [dedup]
  | x :: r, ks, y => by
    rw [dedup, dedup_mem]
    by_cases h : x ∈ ks
    · rw [if_pos h, List.mem_cons]
      constructor
      · rintro (h1 | h1)
        · exact .inl h1
        · exact .inr (.inr h1)
      · rintro (h1 | h1 | h1)
        · exact .inl h1
        · subst h1; exact .inl h
        · exact .inr h1
    · rw [if_neg h, List.mem_cons, List.mem_append, List.mem_singleton]
      constructor
      · rintro ((h1 | h1) | h1)
        · exact .inl h1
        · exact .inr (.inl h1)
        · exact .inr (.inr h1)
      · rintro (h1 | h1 | h1)
        · exact .inl (.inl h1)
        · exact .inl (.inr h1)
        · exact .inr h1
theorem dedup_nodup : ∀ {r ks : List Int}, ks.Nodup → (dedup ks r).Nodup
  | [], ks, h => h
  | x :: r, ks, h => by
    rw [dedup]
    refine dedup_nodup ?_
    by_cases m : x ∈ ks
    · rw [if_pos m]; exact h
    · rw [if_neg m]
      refine List.nodup_append.mpr ⟨h, by simp, fun a ha b hb e => ?_⟩
      cases List.mem_singleton.mp hb
      subst e
      exact m ha
theorem dedup_le : ∀ {r ks : List Int}, (dedup ks r).length ≤ ks.length + r.length
  | [], ks => by simp [dedup]
  | x :: r, ks => by
    rw [dedup]
    have := dedup_le (r := r) (ks := if x ∈ ks then ks else ks ++ [x])
    by_cases m : x ∈ ks
    · rw [if_pos m] at this ⊢; rw [List.length_cons]; omega
    · rw [if_neg m] at this ⊢; rw [List.length_append, List.length_singleton] at this; rw [List.length_cons]; omega
theorem sub_len : ∀ {l m : List Int}, l.Nodup → (∀ x ∈ l, x ∈ m) → l.length ≤ m.length
  | [], _, _, _ => Nat.zero_le _
  | x :: l, m, h, s => by
    obtain ⟨h1, h2⟩ := List.nodup_cons.mp h
    have hx := s x (List.mem_cons_self ..)
    have := sub_len (l := l) (m := m.erase x) h2 fun y hy => (List.mem_erase_of_ne (fun e => h1 (by rw [← e]; exact hy))).mpr (s y (List.mem_cons_of_mem _ hy))
    rw [List.length_erase_of_mem hx] at this
    have pos : 0 < m.length := List.length_pos_of_mem hx
    rw [List.length_cons]
    omega
theorem dict_ints {ev : Sl → Out D} {own : List Nat} {tg : Tg} {c : Sl → Out Bool} {ek : Sl → Out D} {w0 : Sl} {σ : Sl} (r : List Int) (h : wipeD σ own = w0) (hl : r.length < sizeLine)
    (step : ∀ x ∈ r, ∃ σ1 v, asgT tg (.int x) w0 = some σ1 ∧ wipeD σ1 own = w0 ∧ c σ1 = .ok true σ1 ∧ ek σ1 = .ok (.int x) σ1 ∧ ev σ1 = .ok v σ1) :
    ∃ es : List (D × D), runG own .dict (turnG own tg c (put1 ek ev)) [] (r.map PyData.int) σ = .ok (.dict es) w0 ∧ es.map (·.1) = (dedup [] r).map PyData.int := by
  obtain ⟨es, e1, rest, hr, e2, ks, q1, q2, q3⟩ := run_inv (dat := .dict) (e := put1 ek ev) (c := c) (tg := tg) (items := r.map PyData.int) (acc := []) (fun items acc => ∃ rest : List Int, items = rest.map PyData.int ∧ (∀ x ∈ rest, x ∈ r) ∧ ∃ ks : List Int, acc.map (·.1) = ks.map PyData.int ∧ dedup ks rest = dedup [] r ∧ ks.length + rest.length ≤ r.length) h
    ⟨r, rfl, fun x hx => hx, [], rfl, rfl, by simp⟩ (by
      rintro d items acc ⟨rest, er, sub, ks, k1, k2, k3⟩
      cases rest with
      | nil => cases er
      | cons x rest =>
        cases er
        obtain ⟨σ1, v, a1, a2, a3, a4, a5⟩ := step x (sub x (List.mem_cons_self ..))
        refine ⟨σ1, true, σ1, a1, a3, fun z => (nomatch z), fun _ => ?_⟩
        have lk : acc.length = ks.length := by
          have := congrArg List.length k1
          simpa using this
        have ko : kindOk acc (.k (.inl x)) = true := by
          cases acc with
          | nil => rfl
          | cons p acc =>
            obtain ⟨pk, pv⟩ := p
            cases ks with
            | nil => cases k1
            | cons k0 ks =>
              have : pk = .int k0 := (List.cons.inj k1).1
              subst this
              rfl
        have lt : acc.length < sizeLine := by
          rw [List.length_cons] at k3
          omega
        refine ⟨dPut acc (.k (.inl x)) (.int x) v, σ1, ?_, a2, rest, rfl, fun y hy => sub y (List.mem_cons_of_mem _ hy), if x ∈ ks then ks else ks ++ [x], ?_, k2, ?_⟩
        · unfold put1
          simp only [a4, a5, Out.bind]
          show (if acc.length < sizeLine ∧ kindOk acc (.k (.inl x)) = true then _ else _) = _
          rw [if_pos ⟨lt, ko⟩]
        · have anyE : acc.any (keyIsD (.k (.inl x))) = decide (x ∈ ks) := by
            have : ∀ (acc : List (D × D)) (ks : List Int), acc.map (·.1) = ks.map PyData.int → acc.any (keyIsD (.k (.inl x))) = decide (x ∈ ks) := by
              intro acc
              induction acc with
              | nil =>
                intro ks h
                cases ks with
                | nil => simp
                | cons _ _ => cases h
              | cons p acc ih =>
                intro ks h
                cases ks with
                | nil => cases h
                | cons k0 ks =>
                  obtain ⟨h1, h2⟩ := List.cons.inj h
                  obtain ⟨pk, pv⟩ := p
                  have h1 : pk = .int k0 := h1
                  subst h1
                  rw [List.any_cons, ih ks h2]
                  have e : keyIsD (.k (.inl x)) (.int k0, pv) = decide (x = k0) := by
                    unfold keyIsD
                    simp [toKK, toK, eq_comm]
                  rw [e]
                  simp [List.mem_cons]
            exact this acc ks k1
          unfold dPut
          rw [anyE]
          by_cases m : x ∈ ks
          · rw [if_pos (decide_eq_true m), if_pos m, List.map_map, ← k1]
            refine List.map_congr_left fun p _ => ?_
            show (if keyIsD (.k (.inl x)) p = true then (p.1, v) else p).1 = p.1
            split <;> rfl
          · rw [if_neg (by simpa using m), if_neg m, List.map_append, List.map_append, k1]
            rfl
        · rw [List.length_cons] at k3
          by_cases m : x ∈ ks
          · rw [if_pos m]; omega
          · rw [if_neg m, List.length_append, List.length_singleton]; omega)
  cases rest with
  | cons _ _ => cases hr
  | nil => exact ⟨es, e1, by rw [← q2]; exact q1⟩
/-! ### displays of few items -/
theorem few {α : Type} {l : List α} (h : l.length ≤ 1000) : l.length ≤ sizeLine := by
  have : sizeLine = 16777216 := sizeLine_eq
  omega
theorem evE_tup0 : evE V (.tup .nil) σ = .ok (.tuple []) σ := by
  rw [evE_tup, evL_nil, bind_ok, if_pos (few (by simp))]
theorem bind_assoc' {α β γ : Type} (x : Out α) (f : α → Sl → Out β) (g : β → Sl → Out γ) : (x.bind f).bind g = x.bind fun a σ => (f a σ).bind g := by
  cases x <;> rfl
theorem evE_tup1 {a : E} (ha : pkI a = none) : evE V (.tup (.cons a .nil)) σ = (evE V a σ).bind fun x σ => .ok (.tuple [x]) σ := by
  rw [evE_tup, evL_cons ha, bind_assoc']
  all_goals congr 1
  funext x σ
  rw [evL_nil, bind_ok, bind_ok, if_pos (few (by simp))]
theorem evE_tup2 {a b : E} (ha : pkI a = none) (hb : pkI b = none) : evE V (.tup (.cons a (.cons b .nil))) σ = (evE V a σ).bind fun x σ => (evE V b σ).bind fun y σ => .ok (.tuple [x, y]) σ := by
  rw [evE_tup, evL_cons ha, bind_assoc']
  all_goals congr 1
  funext x σ
  rw [evL_cons hb, bind_assoc', bind_assoc']
  all_goals congr 1
  funext y σ
  rw [evL_nil, bind_ok, bind_ok, bind_ok, if_pos (few (by simp))]
theorem evE_tup3 {a b c : E} (ha : pkI a = none) (hb : pkI b = none) (hc : pkI c = none) : evE V (.tup (.cons a (.cons b (.cons c .nil)))) σ = (evE V a σ).bind fun x σ => (evE V b σ).bind fun y σ => (evE V c σ).bind fun z σ => .ok (.tuple [x, y, z]) σ := by
  rw [evE_tup, evL_cons ha, bind_assoc']
  all_goals congr 1
  funext x σ
  rw [evL_cons hb, bind_assoc', bind_assoc']
  all_goals congr 1
  funext y σ
  rw [evL_cons hc, bind_assoc', bind_assoc']
  all_goals congr 1
  funext z σ
  rw [evL_nil, bind_ok, bind_ok, bind_ok, bind_ok, if_pos (few (by simp))]
theorem evE_lst0 {m} : evE V (.lst m .nil) σ = .ok (.list []) σ := by
  rw [evE_lst, evL_nil, bind_ok, if_pos (few (by simp))]
theorem evE_lst1 {m} {a : E} (ha : pkI a = none) : evE V (.lst m (.cons a .nil)) σ = (evE V a σ).bind fun x σ => .ok (.list [x]) σ := by
  rw [evE_lst, evL_cons ha, bind_assoc']
  all_goals congr 1
  funext x σ
  rw [evL_nil, bind_ok, bind_ok, if_pos (few (by simp))]
theorem evE_lst2 {m} {a b : E} (ha : pkI a = none) (hb : pkI b = none) : evE V (.lst m (.cons a (.cons b .nil))) σ = (evE V a σ).bind fun x σ => (evE V b σ).bind fun y σ => .ok (.list [x, y]) σ := by
  rw [evE_lst, evL_cons ha, bind_assoc']
  all_goals congr 1
  funext x σ
  rw [evL_cons hb, bind_assoc', bind_assoc']
  all_goals congr 1
  funext y σ
  rw [evL_nil, bind_ok, bind_ok, bind_ok, if_pos (few (by simp))]
theorem evE_lst3 {m} {a b c : E} (ha : pkI a = none) (hb : pkI b = none) (hc : pkI c = none) : evE V (.lst m (.cons a (.cons b (.cons c .nil)))) σ = (evE V a σ).bind fun x σ => (evE V b σ).bind fun y σ => (evE V c σ).bind fun z σ => .ok (.list [x, y, z]) σ := by
  rw [evE_lst, evL_cons ha, bind_assoc']
  all_goals congr 1
  funext x σ
  rw [evL_cons hb, bind_assoc', bind_assoc']
  all_goals congr 1
  funext y σ
  rw [evL_cons hc, bind_assoc', bind_assoc']
  all_goals congr 1
  funext z σ
  rw [evL_nil, bind_ok, bind_ok, bind_ok, bind_ok, if_pos (few (by simp))]
theorem pk_var {i} : pkI (.var i) = none := rfl
theorem pk_int {i} : pkI (.int i) = none := rfl
theorem pk_str {i} : pkI (.str i) = none := rfl
theorem pk_bl {i} : pkI (.bl i) = none := rfl
theorem pk_non : pkI .non = none := rfl
theorem pk_op {o fr as} : pkI (.op o fr as) = none := rfl
theorem pk_call {f as} : pkI (.call f as) = none := rfl
theorem pk_tup {as} : pkI (.tup as) = none := rfl
theorem pk_lst {m as} : pkI (.lst m as) = none := rfl
theorem pk_ite {a b c} : pkI (.ite a b c) = none := rfl
theorem pk_and {a b} : pkI (.and a b) = none := rfl
theorem pk_or {a b} : pkI (.or a b) = none := rfl
theorem pk_not {a} : pkI (.not a) = none := rfl
theorem pk_lc {own tg ik it c m e} : pkI (.lc own tg ik it c m e) = none := rfl
theorem fin0 {α : Type} {a b : α} : (if ([] : List D).length ≤ sizeLine then a else b) = a := if_pos (few (by simp))
theorem fin1 {α : Type} {a b : α} {x : D} : (if [x].length ≤ sizeLine then a else b) = a := if_pos (few (by simp))
theorem fin2 {α : Type} {a b : α} {x y : D} : (if [x, y].length ≤ sizeLine then a else b) = a := if_pos (few (by simp))
theorem fin3 {α : Type} {a b : α} {x y z : D} : (if [x, y, z].length ≤ sizeLine then a else b) = a := if_pos (few (by simp))
end
end Dt
end
section
set_option Elab.async false
set_option linter.all false
set_option maxRecDepth 100000
set_option maxHeartbeats 0
namespace K14
open PySem PySem.Spec PyProof.Rows L2 Dt
def top (i : Nat) : Stmt := PySem.Challenge.pw_turnabouts_k14_runs_and_shortcuts_judged.main.body.getD i (.Pass ⟨0, 0, 0, 0⟩)
/-- is_whole: 0 value -/
def b_is_whole : S := (.seq (.ret (.and (.op .isInt false (.cons (.pk 0) .nil)) (.not (.op .isBool false (.cons (.pk 0) .nil)))))
  .skip)
def d_is_whole : DefC := ⟨"is_whole", defArgs (top 4), defBody (top 4), defScope (top 4), ["value"], ["value"], [.F], ⟨1, [], 1, .F, b_is_whole⟩, [none]⟩
/-- is_count: 0 value -/
def b_is_count : S := (.seq (.ret (.and (.call 0 (.cons (.var 0) .nil)) (.op .ge false (.cons (.pk 0) (.cons (.int 0) .nil)))))
  .skip)
def d_is_count : DefC := ⟨"is_count", defArgs (top 5), defBody (top 5), defScope (top 5), ["value"], ["value"], [.F], ⟨1, [], 1, .F, b_is_count⟩, [none]⟩
/-- is_place: 0 n, 1 value -/
def b_is_place : S := (.seq (.ret (.and (.call 1 (.cons (.var 1) .nil)) (.op .lt false (.cons (.pk 1) (.cons (.pk 0) .nil)))))
  .skip)
def d_is_place : DefC := ⟨"is_place", defArgs (top 7), defBody (top 7), defScope (top 7), ["n", "value"], ["n", "value"], [.F, .F], ⟨2, [], 2, .F, b_is_place⟩, [none, none]⟩
/-- is_tie: 0 n, 1 value, 2 item -/
def b_is_tie : S := (.seq (.ite (.or (.not (.op .isTuple false (.cons (.pk 1) .nil))) (.or (.op .ne false (.cons (.op .len false (.cons (.pk 1) .nil)) (.cons (.int 2) .nil))) (.not (.op .all false (.cons (.lc [2] (.v 2) .seq (.cons (.var 1) .nil) (.bl true) .F (.call 2 (.cons (.var 0) (.cons (.var 2) .nil)))) .nil)))))
  (.seq (.ret (.bl false))
  .skip)
  .skip)
  (.seq (.ret (.op .lt false (.cons (.op .idx false (.cons (.pk 1) (.cons (.int 0) .nil))) (.cons (.op .idx false (.cons (.pk 1) (.cons (.int 1) .nil))) .nil))))
  .skip))
def d_is_tie : DefC := ⟨"is_tie", defArgs (top 8), defBody (top 8), defScope (top 8), ["n", "value"], ["n", "value", "item"], [.F, .F, .F], ⟨2, [], 3, .F, b_is_tie⟩, [none, none]⟩
/-- is_web: 0 value, 1 tie, 2 one, 3 two -/
def b_is_web : S := (.seq (.ite (.or (.not (.op .isTuple false (.cons (.pk 0) .nil))) (.or (.op .ne false (.cons (.op .len false (.cons (.pk 0) .nil)) (.cons (.int 2) .nil))) (.or (.not (.call 1 (.cons (.op .idx false (.cons (.pk 0) (.cons (.int 0) .nil))) .nil))) (.not (.op .isTuple false (.cons (.op .idx false (.cons (.pk 0) (.cons (.int 1) .nil))) .nil))))))
  (.seq (.ret (.bl false))
  .skip)
  .skip)
  (.seq (.ite (.not (.op .all false (.cons (.lc [1] (.v 1) .seq (.cons (.op .idx false (.cons (.pk 0) (.cons (.int 1) .nil))) .nil) (.bl true) .F (.call 3 (.cons (.op .idx false (.cons (.pk 0) (.cons (.int 0) .nil))) (.cons (.var 1) .nil)))) .nil)))
  (.seq (.ret (.bl false))
  .skip)
  .skip)
  (.seq (.ret (.op .all false (.cons (.lc [2, 3] (.cons (.v 2) (.cons (.v 3) .nil)) .zip (.cons (.op .idx false (.cons (.pk 0) (.cons (.int 1) .nil))) (.cons (.op .sliceL false (.cons (.op .idx false (.cons (.pk 0) (.cons (.int 1) .nil))) (.cons (.int 1) .nil))) .nil)) (.bl true) .F (.op .lt false (.cons (.pk 2) (.cons (.pk 3) .nil)))) .nil)))
  .skip)))
def d_is_web : DefC := ⟨"is_web", defArgs (top 9), defBody (top 9), defScope (top 9), ["value"], ["value", "tie", "one", "two"], [.F, .F, .F, .F], ⟨1, [], 4, .F, b_is_web⟩, [none]⟩
/-- need_web: 0 value -/
def b_need_web : S := (.seq (.ite (.not (.call 4 (.cons (.var 0) .nil)))
  (.seq (.raise 0 .nil)
  .skip)
  .skip)
  .skip)
def d_need_web : DefC := ⟨"need_web", defArgs (top 10), defBody (top 10), defScope (top 10), ["value"], ["value"], [.F], ⟨1, [], 1, .F, b_need_web⟩, [none]⟩
/-- as_tie: 0 one, 1 two -/
def b_as_tie : S := (.seq (.ret (.ite (.op .lt false (.cons (.pk 0) (.cons (.pk 1) .nil))) (.tup (.cons (.var 0) (.cons (.var 1) .nil))) (.tup (.cons (.var 1) (.cons (.var 0) .nil)))))
  .skip)
def d_as_tie : DefC := ⟨"as_tie", defArgs (top 11), defBody (top 11), defScope (top 11), ["one", "two"], ["one", "two"], [.F, .F], ⟨2, [], 2, .F, b_as_tie⟩, [none, none]⟩
/-- are_directions_in: 0 web, 1 value, 2 tie, 3 pair, 4 place -/
def b_are_directions_in : S := (.seq (.ite (.or (.not (.op .isTuple false (.cons (.pk 1) .nil))) (.op .ne false (.cons (.op .len false (.cons (.pk 1) .nil)) (.cons (.op .len false (.cons (.op .idx false (.cons (.pk 0) (.cons (.int 1) .nil))) .nil)) .nil))))
  (.seq (.ret (.bl false))
  .skip)
  .skip)
  (.seq (.for (.cons (.v 2) (.cons (.v 3) .nil)) .zip (.cons (.op .idx false (.cons (.pk 0) (.cons (.int 1) .nil))) (.cons (.var 1) .nil))
  (.seq (.ite (.or (.not (.op .isTuple false (.cons (.pk 3) .nil))) (.or (.op .ne false (.cons (.op .len false (.cons (.pk 3) .nil)) (.cons (.int 2) .nil))) (.not (.op .all false (.cons (.lc [4] (.v 4) .seq (.cons (.var 3) .nil) (.bl true) .F (.call 2 (.cons (.op .idx false (.cons (.pk 0) (.cons (.int 0) .nil))) (.cons (.var 4) .nil)))) .nil)))))
  (.seq (.ret (.bl false))
  .skip)
  .skip)
  (.seq (.ite (.op .ne false (.cons (.call 6 (.cons (.op .idx false (.cons (.pk 3) (.cons (.int 0) .nil))) (.cons (.op .idx false (.cons (.pk 3) (.cons (.int 1) .nil))) .nil))) (.cons (.pk 2) .nil)))
  (.seq (.ret (.bl false))
  .skip)
  .skip)
  .skip)))
  (.seq (.ret (.bl true))
  .skip)))
def d_are_directions_in : DefC := ⟨"are_directions_in", defArgs (top 13), defBody (top 13), defScope (top 13), ["web", "value"], ["web", "value", "tie", "pair", "place"], [.F, .F, .F, .F, .F], ⟨2, [], 5, .F, b_are_directions_in⟩, [none, none]⟩
/-- need_directions: 0 web, 1 directions -/
def b_need_directions : S := (.seq (.exp (.call 5 (.cons (.var 0) .nil)))
  (.seq (.ite (.not (.call 7 (.cons (.var 0) (.cons (.var 1) .nil))))
  (.seq (.raise 0 .nil)
  .skip)
  .skip)
  .skip))
def d_need_directions : DefC := ⟨"need_directions", defArgs (top 14), defBody (top 14), defScope (top 14), ["web", "directions"], ["web", "directions"], [.F, .F], ⟨2, [], 2, .F, b_need_directions⟩, [none, none]⟩
/-- is_way_in: 0 n, 1 pairs, 2 value, 3 place, 4 one, 5 two -/
def b_is_way_in : S := (.seq (.ite (.or (.not (.op .isTuple false (.cons (.pk 2) .nil))) (.or (.op .lt false (.cons (.op .len false (.cons (.pk 2) .nil)) (.cons (.int 2) .nil))) (.not (.op .all false (.cons (.lc [3] (.v 3) .seq (.cons (.var 2) .nil) (.bl true) .F (.call 2 (.cons (.var 0) (.cons (.var 3) .nil)))) .nil)))))
  (.seq (.ret (.bl false))
  .skip)
  .skip)
  (.seq (.ite (.op .lt false (.cons (.op .len false (.cons (.dc [3] (.v 3) .seq (.cons (.var 2) .nil) (.bl true) (.var 3) (.bl true)) .nil)) (.cons (.op .len false (.cons (.pk 2) .nil)) .nil)))
  (.seq (.ret (.bl false))
  .skip)
  .skip)
  (.seq (.ret (.op .all false (.cons (.lc [4, 5] (.cons (.v 4) (.cons (.v 5) .nil)) .zip (.cons (.var 2) (.cons (.op .sliceL false (.cons (.pk 2) (.cons (.int 1) .nil))) .nil)) (.bl true) .F (.op .isIn false (.cons (.tup (.cons (.var 4) (.cons (.var 5) .nil))) (.cons (.pk 1) .nil)))) .nil)))
  .skip)))
def d_is_way_in : DefC := ⟨"is_way_in", defArgs (top 15), defBody (top 15), defScope (top 15), ["n", "pairs", "value"], ["n", "pairs", "value", "place", "one", "two"], [.F, .F, .F, .F, .F, .F], ⟨3, [], 6, .F, b_is_way_in⟩, [none, none, none]⟩
/-- is_run_in: 0 n, 1 pairs, 2 value -/
def b_is_run_in : S := (.seq (.ret (.and (.call 9 (.cons (.var 0) (.cons (.var 1) (.cons (.var 2) .nil)))) (.and (.op .gt false (.cons (.op .len false (.cons (.pk 2) .nil)) (.cons (.int 2) .nil))) (.op .isIn false (.cons (.tup (.cons (.op .idx false (.cons (.pk 2) (.cons (.op .neg false (.cons (.int 1) .nil)) .nil))) (.cons (.op .idx false (.cons (.pk 2) (.cons (.int 0) .nil))) .nil))) (.cons (.pk 1) .nil))))))
  .skip)
def d_is_run_in : DefC := ⟨"is_run_in", defArgs (top 16), defBody (top 16), defScope (top 16), ["n", "pairs", "value"], ["n", "pairs", "value"], [.F, .F, .F], ⟨3, [], 3, .F, b_is_run_in⟩, [none, none, none]⟩
/-- has_gap: 0 web, 1 way, 2 k, 3 one, 4 two -/
def b_has_gap : S := (.seq (.for (.cons (.v 2) (.cons (.v 3) .nil)) .enum (.cons (.var 1) .nil)
  (.seq (.ite (.not (.op .all false (.cons (.lc [4] (.v 4) .seq (.cons (.op .sliceH false (.cons (.pk 1) (.cons (.pk 2) .nil))) .nil) (.bl true) .F (.op .isIn false (.cons (.call 6 (.cons (.var 3) (.cons (.var 4) .nil))) (.cons (.op .idx false (.cons (.pk 0) (.cons (.int 1) .nil))) .nil)))) .nil)))
  (.seq (.ret (.bl true))
  .skip)
  .skip)
  .skip))
  (.seq (.ret (.bl false))
  .skip))
def d_has_gap : DefC := ⟨"has_gap", defArgs (top 17), defBody (top 17), defScope (top 17), ["web", "way"], ["web", "way", "k", "one", "two"], [.F, .F, .F, .F, .F], ⟨2, [], 5, .F, b_has_gap⟩, [none, none]⟩
/-- is_shortcut_in: 0 web, 1 pairs, 2 value -/
def b_is_shortcut_in : S := (.seq (.ite (.or (.not (.call 9 (.cons (.op .idx false (.cons (.pk 0) (.cons (.int 0) .nil))) (.cons (.var 1) (.cons (.var 2) .nil))))) (.or (.op .lt false (.cons (.op .len false (.cons (.pk 2) .nil)) (.cons (.int 4) .nil))) (.op .notIn false (.cons (.tup (.cons (.op .idx false (.cons (.pk 2) (.cons (.int 0) .nil))) (.cons (.op .idx false (.cons (.pk 2) (.cons (.op .neg false (.cons (.int 1) .nil)) .nil))) .nil))) (.cons (.pk 1) .nil)))))
  (.seq (.ret (.bl false))
  .skip)
  .skip)
  (.seq (.ret (.call 11 (.cons (.var 0) (.cons (.var 2) .nil))))
  .skip))
def d_is_shortcut_in : DefC := ⟨"is_shortcut_in", defArgs (top 18), defBody (top 18), defScope (top 18), ["web", "pairs", "value"], ["web", "pairs", "value"], [.F, .F, .F], ⟨3, [], 3, .F, b_is_shortcut_in⟩, [none, none, none]⟩
/-- is_run: 0 web, 1 directions, 2 value -/
def b_is_run : S := (.seq (.exp (.call 8 (.cons (.var 0) (.cons (.var 1) .nil))))
  (.seq (.ret (.call 10 (.cons (.op .idx false (.cons (.pk 0) (.cons (.int 0) .nil))) (.cons (.var 1) (.cons (.var 2) .nil)))))
  .skip))
def d_is_run : DefC := ⟨"is_run", defArgs (top 19), defBody (top 19), defScope (top 19), ["web", "directions", "value"], ["web", "directions", "value"], [.F, .F, .F], ⟨3, [], 3, .F, b_is_run⟩, [none, none, none]⟩
/-- is_shortcut: 0 web, 1 directions, 2 value -/
def b_is_shortcut : S := (.seq (.exp (.call 8 (.cons (.var 0) (.cons (.var 1) .nil))))
  (.seq (.ret (.call 12 (.cons (.var 0) (.cons (.var 1) (.cons (.var 2) .nil)))))
  .skip))
def d_is_shortcut : DefC := ⟨"is_shortcut", defArgs (top 20), defBody (top 20), defScope (top 20), ["web", "directions", "value"], ["web", "directions", "value"], [.F, .F, .F], ⟨3, [], 3, .F, b_is_shortcut⟩, [none, none, none]⟩
/-- _law_pen: 0 script, 1 fold, 2 cell -/
def b__law_pen : S := (.seq (.set 1 (.int 53))
  (.seq (.for (.v 2) .seq (.cons (.var 0) .nil)
  (.seq (.set 1 (.op .mod false (.cons (.op .int false (.cons (.op .add false (.cons (.op .mul false (.cons (.pk 1) (.cons (.int 89) .nil))) (.cons (.pk 2) .nil))) .nil)) (.cons (.int 1000000349) .nil))))
  .skip))
  (.seq (.ret (.dsp ["cells", "at", "digits", "count", "fold"] (.cons (.op .list false (.cons (.pk 0) .nil)) (.cons (.int 0) (.cons (.int 0) (.cons (.int 0) (.cons (.var 1) .nil)))))))
  .skip)))
def d__law_pen : DefC := ⟨"_law_pen", defArgs (top 22), defBody (top 22), defScope (top 22), ["script"], ["script", "fold", "cell"], [.F, .F, .F], ⟨1, [], 3, .O .F, b__law_pen⟩, [none]⟩
/-- _law_draw: 0 pen, 1 many, 2 cell, 3 digit, 4 blend -/
def b__law_draw : S := (.seq (.put .set 0 (.str "count") (.op .add false (.cons (.op .idx false (.cons (.pk 0) (.cons (.str "count") .nil))) (.cons (.int 1) .nil))))
  (.seq (.ite (.and (.op .eq false (.cons (.op .idx false (.cons (.pk 0) (.cons (.str "digits") .nil))) (.cons (.int 0) .nil))) (.op .lt false (.cons (.op .idx false (.cons (.pk 0) (.cons (.str "at") .nil))) (.cons (.op .len false (.cons (.op .idx false (.cons (.pk 0) (.cons (.str "cells") .nil))) .nil)) .nil))))
  (.seq (.set 2 (.op .idx false (.cons (.op .idx false (.cons (.pk 0) (.cons (.str "cells") .nil))) (.cons (.op .idx false (.cons (.pk 0) (.cons (.str "at") .nil))) .nil))))
  (.seq (.put .set 0 (.str "at") (.op .add false (.cons (.op .idx false (.cons (.pk 0) (.cons (.str "at") .nil))) (.cons (.int 1) .nil))))
  (.seq (.ite (.op .ge false (.cons (.pk 2) (.cons (.op .pow false (.cons (.int 10) (.cons (.int 18) .nil))) .nil)))
  (.seq (.put .set 0 (.str "digits") (.op .sub false (.cons (.pk 2) (.cons (.op .pow false (.cons (.int 10) (.cons (.int 18) .nil))) .nil))))
  .skip)
  (.seq (.put .set 0 (.str "fold") (.op .mod false (.cons (.op .int false (.cons (.op .add false (.cons (.op .mul false (.cons (.op .idx false (.cons (.pk 0) (.cons (.str "fold") .nil))) (.cons (.int 70489) .nil))) (.cons (.pk 2) .nil))) .nil)) (.cons (.int 2147483269) .nil))))
  .skip))
  .skip)))
  .skip)
  (.seq (.ite (.op .gt false (.cons (.op .idx false (.cons (.pk 0) (.cons (.str "digits") .nil))) (.cons (.int 0) .nil)))
  (.seq (.set 3 (.op .mod false (.cons (.op .int false (.cons (.op .idx false (.cons (.pk 0) (.cons (.str "digits") .nil))) .nil)) (.cons (.pk 1) .nil))))
  (.seq (.put .set 0 (.str "digits") (.op .fdiv false (.cons (.op .idx false (.cons (.pk 0) (.cons (.str "digits") .nil))) (.cons (.pk 1) .nil))))
  (.seq (.ret (.var 3))
  .skip)))
  .skip)
  (.seq (.set 4 (.op .add false (.cons (.op .add false (.cons (.op .idx false (.cons (.pk 0) (.cons (.str "fold") .nil))) (.cons (.op .mul false (.cons (.op .idx false (.cons (.pk 0) (.cons (.str "count") .nil))) (.cons (.int 9871) .nil))) .nil))) (.cons (.int 73) .nil))))
  (.seq (.ret (.op .mod false (.cons (.op .fdiv false (.cons (.op .int false (.cons (.op .mod false (.cons (.op .pow false (.cons (.pk 4) (.cons (.int 19) .nil))) (.cons (.int 2305843009213693951) .nil))) .nil)) (.cons (.int 256) .nil))) (.cons (.pk 1) .nil))))
  .skip)))))
def d__law_draw : DefC := ⟨"_law_draw", defArgs (top 23), defBody (top 23), defScope (top 23), ["pen", "many"], ["pen", "many", "cell", "digit", "blend"], [(.O .F), .F, .F, .F, .F], ⟨2, [0], 5, .F, b__law_draw⟩, [some (.O .F), none]⟩
/-- _law_pick: 0 pen, 1 some -/
def b__law_pick : S := (.seq (.ret (.op .idx false (.cons (.pk 1) (.cons (.call 16 (.cons (.lnt 0) (.cons (.op .len false (.cons (.pk 1) .nil)) .nil))) .nil))))
  .skip)
def d__law_pick : DefC := ⟨"_law_pick", defArgs (top 24), defBody (top 24), defScope (top 24), ["pen", "some"], ["pen", "some"], [(.O .F), .F], ⟨2, [0], 2, .F, b__law_pick⟩, [some (.O .F), none]⟩
/-- _law_mixed: 0 pen, 1 some, 2 left, 3 found, 4 lap -/
def b__law_mixed : S := (.seq (.par (.cons (.v 2) (.cons (.v 3) .nil)) (.cons (.op .list true (.cons (.pk 1) .nil)) (.cons (.lst .F .nil) .nil)))
  (.seq (.for (.v 4) .range1 (.cons (.op .len false (.cons (.pk 1) .nil)) .nil)
  (.seq (.exp (.mut .append 3 (.cons (.mut .popAt 2 (.cons (.call 16 (.cons (.lnt 0) (.cons (.op .len false (.cons (.pk 2) .nil)) .nil))) .nil)) .nil)))
  .skip))
  (.seq (.frz 3)
  (.seq (.ret (.var 3))
  .skip))))
def d__law_mixed : DefC := ⟨"_law_mixed", defArgs (top 25), defBody (top 25), defScope (top 25), ["pen", "some"], ["pen", "some", "left", "found", "lap"], [(.O .F), .F, (.O .F), (.O .F), .F], ⟨2, [0], 5, .F, b__law_mixed⟩, [some (.O .F), none]⟩
/-- _law_is: 0 told, 1 due -/
def b__law_is : S := (.seq (.ret (.and (.op .isBool false (.cons (.pk 0) .nil)) (.op .eq false (.cons (.pk 0) (.cons (.pk 1) .nil)))))
  .skip)
def d__law_is : DefC := ⟨"_law_is", defArgs (top 26), defBody (top 26), defScope (top 26), ["told", "due"], ["told", "due"], [.F, .F], ⟨2, [], 2, .F, b__law_is⟩, [none, none]⟩
/-- _law_web: 0 pen, 1 most, 2 wide, 3 n, 4 share, 5 found, 6 i, 7 j -/
def b__law_web : S := (.seq (.par (.cons (.v 3) (.cons (.v 4) (.cons (.v 5) .nil))) (.cons (.call 16 (.cons (.lnt 0) (.cons (.op .add false (.cons (.pk 1) (.cons (.int 1) .nil))) .nil))) (.cons (.call 17 (.cons (.lnt 0) (.cons (.lst .F (.cons (.int 3) (.cons (.int 5) (.cons (.int 7) (.cons (.int 9) (.cons (.int 11) .nil)))))) .nil))) (.cons (.lst .F .nil) .nil))))
  (.seq (.for (.v 6) .range1 (.cons (.var 3) .nil)
  (.seq (.for (.v 7) .range2 (.cons (.op .add false (.cons (.pk 6) (.cons (.int 1) .nil))) (.cons (.var 3) .nil))
  (.seq (.ite (.op .lt false (.cons (.call 16 (.cons (.lnt 0) (.cons (.int 12) .nil))) (.cons (.pk 4) .nil)))
  (.seq (.exp (.mut .append 5 (.cons (.tup (.cons (.var 6) (.cons (.var 7) .nil))) .nil)))
  .skip)
  .skip)
  .skip))
  .skip))
  (.seq (.frz 5)
  (.seq (.ret (.tup (.cons (.var 3) (.cons (.op .tuple false (.cons (.op .sorted false (.cons (.op .sliceH false (.cons (.call 18 (.cons (.lnt 0) (.cons (.var 5) .nil))) (.cons (.pk 2) .nil))) .nil)) .nil)) .nil))))
  .skip))))
def d__law_web : DefC := ⟨"_law_web", defArgs (top 27), defBody (top 27), defScope (top 27), ["pen", "most", "wide"], ["pen", "most", "wide", "n", "share", "found", "i", "j"], [(.O .F), .F, .F, .F, .F, (.O .F), .F, .F], ⟨3, [0], 8, .F, b__law_web⟩, [some (.O .F), none, none]⟩
/-- _law_some_directions: 0 pen, 1 web, 2 order, 3 way, 4 found, 5 i, 6 j, 7 is_turned -/
def b__law_some_directions : S := (.seq (.par (.cons (.v 2) (.cons (.v 3) .nil)) (.cons (.call 18 (.cons (.lnt 0) (.cons (.op .range1 false (.cons (.op .idx false (.cons (.pk 1) (.cons (.int 0) .nil))) .nil)) .nil))) (.cons (.call 16 (.cons (.lnt 0) (.cons (.int 3) .nil))) .nil)))
  (.seq (.set 4 (.lst .F .nil))
  (.seq (.for (.cons (.v 5) (.cons (.v 6) .nil)) .seq (.cons (.op .idx false (.cons (.pk 1) (.cons (.int 1) .nil))) .nil)
  (.seq (.set 7 (.ite (.op .gt false (.cons (.pk 3) (.cons (.int 0) .nil))) (.op .gt false (.cons (.meth .index (.var 2) (.cons (.pk 5) .nil)) (.cons (.meth .index (.var 2) (.cons (.pk 6) .nil)) .nil))) (.op .eq false (.cons (.call 16 (.cons (.lnt 0) (.cons (.int 2) .nil))) (.cons (.int 0) .nil)))))
  (.seq (.exp (.mut .append 4 (.cons (.ite (.var 7) (.tup (.cons (.var 6) (.cons (.var 5) .nil))) (.tup (.cons (.var 5) (.cons (.var 6) .nil)))) .nil)))
  .skip)))
  (.seq (.ret (.op .tuple false (.cons (.pk 4) .nil)))
  .skip))))
def d__law_some_directions : DefC := ⟨"_law_some_directions", defArgs (top 28), defBody (top 28), defScope (top 28), ["pen", "web"], ["pen", "web", "order", "way", "found", "i", "j", "is_turned"], [(.O .F), .F, .F, .F, (.O .F), .F, .F, .F], ⟨2, [0], 8, .F, b__law_some_directions⟩, [some (.O .F), none]⟩
/-- _law_tied: 0 web, 1 one, 2 two -/
def b__law_tied : S := (.seq (.ret (.op .isIn false (.cons (.tup (.cons (.op .min2 false (.cons (.pk 1) (.cons (.pk 2) .nil))) (.cons (.op .max2 false (.cons (.pk 1) (.cons (.pk 2) .nil))) .nil))) (.cons (.op .idx false (.cons (.pk 0) (.cons (.int 1) .nil))) .nil))))
  .skip)
def d__law_tied : DefC := ⟨"_law_tied", defArgs (top 29), defBody (top 29), defScope (top 29), ["web", "one", "two"], ["web", "one", "two"], [.F, .F, .F], ⟨3, [], 3, .F, b__law_tied⟩, [none, none, none]⟩
/-- _law_is_place: 0 n, 1 value -/
def b__law_is_place : S := (.seq (.ret (.and (.op .isInt false (.cons (.pk 1) .nil)) (.and (.not (.op .isBool false (.cons (.pk 1) .nil))) (.chn .le .lt (.int 0) (.var 1) (.var 0)))))
  .skip)
def d__law_is_place : DefC := ⟨"_law_is_place", defArgs (top 30), defBody (top 30), defScope (top 30), ["n", "value"], ["n", "value"], [.F, .F], ⟨2, [], 2, .F, b__law_is_place⟩, [none, none]⟩
/-- _law_is_way: 0 n, 1 pairs, 2 value, 3 place, 4 k -/
def b__law_is_way : S := (.seq (.ite (.or (.not (.op .isTuple false (.cons (.pk 2) .nil))) (.op .lt false (.cons (.op .len false (.cons (.pk 2) .nil)) (.cons (.int 2) .nil))))
  (.seq (.ret (.bl false))
  .skip)
  .skip)
  (.seq (.ite (.op .ne false (.cons (.lc [3] (.v 3) .seq (.cons (.var 2) .nil) (.or (.not (.call 23 (.cons (.var 0) (.cons (.var 3) .nil)))) (.op .gt false (.cons (.meth .count (.var 2) (.cons (.pk 3) .nil)) (.cons (.int 1) .nil)))) .F (.var 3)) (.cons (.lst .F .nil) .nil)))
  (.seq (.ret (.bl false))
  .skip)
  .skip)
  (.seq (.ret (.op .eq false (.cons (.lc [4] (.v 4) .range2 (.cons (.int 1) (.cons (.op .len false (.cons (.pk 2) .nil)) .nil)) (.op .notIn false (.cons (.tup (.cons (.op .idx false (.cons (.pk 2) (.cons (.op .sub false (.cons (.pk 4) (.cons (.int 1) .nil))) .nil))) (.cons (.op .idx false (.cons (.pk 2) (.cons (.pk 4) .nil))) .nil))) (.cons (.pk 1) .nil))) .F (.var 4)) (.cons (.lst .F .nil) .nil))))
  .skip)))
def d__law_is_way : DefC := ⟨"_law_is_way", defArgs (top 31), defBody (top 31), defScope (top 31), ["n", "pairs", "value"], ["n", "pairs", "value", "place", "k"], [.F, .F, .F, .F, .F], ⟨3, [], 5, .F, b__law_is_way⟩, [none, none, none]⟩
/-- _law_is_run: 0 n, 1 pairs, 2 value -/
def b__law_is_run : S := (.seq (.ret (.and (.call 24 (.cons (.var 0) (.cons (.var 1) (.cons (.var 2) .nil)))) (.and (.op .gt false (.cons (.op .len false (.cons (.pk 2) .nil)) (.cons (.int 2) .nil))) (.op .isIn false (.cons (.tup (.cons (.op .idx false (.cons (.pk 2) (.cons (.op .neg false (.cons (.int 1) .nil)) .nil))) (.cons (.op .idx false (.cons (.pk 2) (.cons (.int 0) .nil))) .nil))) (.cons (.pk 1) .nil))))))
  .skip)
def d__law_is_run : DefC := ⟨"_law_is_run", defArgs (top 32), defBody (top 32), defScope (top 32), ["n", "pairs", "value"], ["n", "pairs", "value"], [.F, .F, .F], ⟨3, [], 3, .F, b__law_is_run⟩, [none, none, none]⟩
/-- _law_has_gap: 0 web, 1 way, 2 i, 3 j -/
def b__law_has_gap : S := (.seq (.for (.v 2) .range1 (.cons (.op .len false (.cons (.pk 1) .nil)) .nil)
  (.seq (.for (.v 3) .range1 (.cons (.var 2) .nil)
  (.seq (.ite (.not (.call 22 (.cons (.var 0) (.cons (.op .idx false (.cons (.pk 1) (.cons (.pk 2) .nil))) (.cons (.op .idx false (.cons (.pk 1) (.cons (.pk 3) .nil))) .nil)))))
  (.seq (.ret (.bl true))
  .skip)
  .skip)
  .skip))
  .skip))
  (.seq (.ret (.bl false))
  .skip))
def d__law_has_gap : DefC := ⟨"_law_has_gap", defArgs (top 33), defBody (top 33), defScope (top 33), ["web", "way"], ["web", "way", "i", "j"], [.F, .F, .F, .F], ⟨2, [], 4, .F, b__law_has_gap⟩, [none, none]⟩
/-- _law_is_shortcut: 0 web, 1 pairs, 2 value -/
def b__law_is_shortcut : S := (.seq (.ite (.or (.not (.call 24 (.cons (.op .idx false (.cons (.pk 0) (.cons (.int 0) .nil))) (.cons (.var 1) (.cons (.var 2) .nil))))) (.or (.op .lt false (.cons (.op .len false (.cons (.pk 2) .nil)) (.cons (.int 4) .nil))) (.op .notIn false (.cons (.tup (.cons (.op .idx false (.cons (.pk 2) (.cons (.int 0) .nil))) (.cons (.op .idx false (.cons (.pk 2) (.cons (.op .neg false (.cons (.int 1) .nil)) .nil))) .nil))) (.cons (.pk 1) .nil)))))
  (.seq (.ret (.bl false))
  .skip)
  .skip)
  (.seq (.ret (.call 26 (.cons (.var 0) (.cons (.var 2) .nil))))
  .skip))
def d__law_is_shortcut : DefC := ⟨"_law_is_shortcut", defArgs (top 34), defBody (top 34), defScope (top 34), ["web", "pairs", "value"], ["web", "pairs", "value"], [.F, .F, .F], ⟨3, [], 3, .F, b__law_is_shortcut⟩, [none, none, none]⟩
/-- _law_ways: 0 n, 1 pairs, 2 found, 3 fresh, 4 one, 5 two, 6 more, 7 way -/
def b__law_ways : S := (.seq (.par (.cons (.v 2) (.cons (.v 3) .nil)) (.cons (.lst .F .nil) (.cons (.lc [4, 5] (.cons (.v 4) (.cons (.v 5) .nil)) .seq (.cons (.var 1) .nil) (.bl true) .F (.tup (.cons (.var 4) (.cons (.var 5) .nil)))) .nil)))
  (.seq (.whl (.op .ne false (.cons (.pk 3) (.cons (.lst .F .nil) .nil)))
  (.seq (.par (.cons (.v 2) (.cons (.v 6) .nil)) (.cons (.op .add false (.cons (.pk 2) (.cons (.pk 3) .nil))) (.cons (.lst .F .nil) .nil)))
  (.seq (.for (.v 7) .seq (.cons (.var 3) .nil)
  (.seq (.set 6 (.op .add false (.cons (.pk 6) (.cons (.lc [4, 5] (.cons (.v 4) (.cons (.v 5) .nil)) .seq (.cons (.var 1) .nil) (.and (.op .eq false (.cons (.pk 4) (.cons (.op .idx false (.cons (.pk 7) (.cons (.op .neg false (.cons (.int 1) .nil)) .nil))) .nil))) (.op .notIn false (.cons (.pk 5) (.cons (.pk 7) .nil)))) .F (.op .add false (.cons (.pk 7) (.cons (.tup (.cons (.var 5) .nil)) .nil)))) .nil))))
  .skip))
  (.seq (.set 3 (.var 6))
  .skip))))
  (.seq (.ret (.var 2))
  .skip)))
def d__law_ways : DefC := ⟨"_law_ways", defArgs (top 35), defBody (top 35), defScope (top 35), ["n", "pairs"], ["n", "pairs", "found", "fresh", "one", "two", "more", "way"], [.F, .F, .F, .F, .F, .F, .F, .F], ⟨2, [], 8, .F, b__law_ways⟩, [none, none]⟩
/-- _law_some_way: 0 pen, 1 n, 2 pairs, 3 found, 4 lap, 5 ends, 6 one, 7 two -/
def b__law_some_way : S := (.seq (.set 3 (.lst .F (.cons (.call 16 (.cons (.lnt 0) (.cons (.var 1) .nil))) .nil)))
  (.seq (.for (.v 4) .range1 (.cons (.op .add false (.cons (.int 1) (.cons (.call 16 (.cons (.lnt 0) (.cons (.var 1) .nil))) .nil))) .nil)
  (.seq (.set 5 (.lc [6, 7] (.cons (.v 6) (.cons (.v 7) .nil)) .seq (.cons (.var 2) .nil) (.and (.op .eq false (.cons (.pk 6) (.cons (.op .idx false (.cons (.pk 3) (.cons (.op .neg false (.cons (.int 1) .nil)) .nil))) .nil))) (.op .notIn false (.cons (.pk 7) (.cons (.pk 3) .nil)))) .F (.var 7)))
  (.seq (.ite (.op .ne false (.cons (.pk 5) (.cons (.lst .F .nil) .nil)))
  (.seq (.exp (.mut .append 3 (.cons (.call 17 (.cons (.lnt 0) (.cons (.var 5) .nil))) .nil)))
  .skip)
  .skip)
  .skip)))
  (.seq (.ret (.op .tuple false (.cons (.pk 3) .nil)))
  .skip)))
def d__law_some_way : DefC := ⟨"_law_some_way", defArgs (top 36), defBody (top 36), defScope (top 36), ["pen", "n", "pairs"], ["pen", "n", "pairs", "found", "lap", "ends", "one", "two"], [(.O .F), .F, .F, (.O .F), .F, .F, .F, .F], ⟨3, [0], 8, .F, b__law_some_way⟩, [some (.O .F), none, none]⟩
/-- law: 0 script, 1 pen, 2 lap, 3 web, 4 n, 5 told, 6 values, 7 ends, 8 turn, 9 value, 10 way, 11 at, 12 other -/
def b_law : S := (.seq (.set 1 (.call 15 (.cons (.var 0) .nil)))
  (.seq (.for (.v 2) .range1 (.cons (.int 4) .nil)
  (.seq (.set 3 (.call 20 (.cons (.lnt 1) (.cons (.int 9) (.cons (.int 20) .nil)))))
  (.seq (.unp (.cons (.v 4) (.cons (.v 5) .nil)) (.tup (.cons (.op .idx false (.cons (.pk 3) (.cons (.int 0) .nil))) (.cons (.call 21 (.cons (.lnt 1) (.cons (.var 3) .nil))) .nil))))
  (.seq (.set 6 (.lst .F (.cons .non (.cons (.tup .nil) (.cons (.int 0) (.cons (.str "way") (.cons (.tup (.cons (.int 0) (.cons (.int 1) .nil))) (.cons (.var 5) .nil))))))))
  (.seq (.set 7 (.lc [10] (.v 10) .seq (.cons (.op .sliceH false (.cons (.call 28 (.cons (.var 4) (.cons (.var 5) .nil))) (.cons (.int 400) .nil))) .nil) (.or (.op .isIn false (.cons (.tup (.cons (.op .idx false (.cons (.pk 10) (.cons (.op .neg false (.cons (.int 1) .nil)) .nil))) (.cons (.op .idx false (.cons (.pk 10) (.cons (.int 0) .nil))) .nil))) (.cons (.pk 5) .nil))) (.op .isIn false (.cons (.tup (.cons (.op .idx false (.cons (.pk 10) (.cons (.int 0) .nil))) (.cons (.op .idx false (.cons (.pk 10) (.cons (.op .neg false (.cons (.int 1) .nil)) .nil))) .nil))) (.cons (.pk 5) .nil)))) .F (.var 10)))
  (.seq (.set 6 (.op .add true (.cons (.pk 6) (.cons (.lc [8] (.v 8) .range1 (.cons (.int 6) .nil) (.op .ne false (.cons (.pk 7) (.cons (.lst .F .nil) .nil))) .F (.call 17 (.cons (.lnt 1) (.cons (.var 7) .nil)))) .nil))))
  (.seq (.for (.v 8) .range1 (.cons (.ite (.op .gt false (.cons (.pk 4) (.cons (.int 0) .nil))) (.int 6) (.int 0)) .nil)
  (.seq (.set 10 (.call 29 (.cons (.lnt 1) (.cons (.var 4) (.cons (.var 5) .nil)))))
  (.seq (.par (.cons (.v 11) (.cons (.v 12) .nil)) (.cons (.call 16 (.cons (.lnt 1) (.cons (.op .len false (.cons (.pk 10) .nil)) .nil))) (.cons (.call 16 (.cons (.lnt 1) (.cons (.var 4) .nil))) .nil)))
  (.seq (.set 6 (.op .add true (.cons (.pk 6) (.cons (.lst .F (.cons (.var 10) (.cons (.op .add false (.cons (.op .add false (.cons (.op .sliceH false (.cons (.pk 10) (.cons (.pk 11) .nil))) (.cons (.tup (.cons (.var 12) .nil)) .nil))) (.cons (.op .sliceL false (.cons (.pk 10) (.cons (.op .add false (.cons (.pk 11) (.cons (.int 1) .nil))) .nil))) .nil))) (.cons (.op .add false (.cons (.op .sliceH false (.cons (.pk 10) (.cons (.pk 11) .nil))) (.cons (.op .sliceL false (.cons (.pk 10) (.cons (.op .add false (.cons (.pk 11) (.cons (.int 1) .nil))) .nil))) .nil))) (.cons (.op .rev false (.cons (.pk 10) .nil)) (.cons (.op .list false (.cons (.pk 10) .nil)) .nil)))))) .nil))))
  (.seq (.set 6 (.op .add true (.cons (.pk 6) (.cons (.lst .F (.cons (.op .add false (.cons (.op .add false (.cons (.op .sliceH false (.cons (.pk 10) (.cons (.pk 11) .nil))) (.cons (.tup (.cons (.var 12) .nil)) .nil))) (.cons (.op .sliceL false (.cons (.pk 10) (.cons (.pk 11) .nil))) .nil))) (.cons (.op .add false (.cons (.op .sliceL false (.cons (.pk 10) (.cons (.pk 11) .nil))) (.cons (.op .sliceH false (.cons (.pk 10) (.cons (.pk 11) .nil))) .nil))) (.cons (.op .add false (.cons (.pk 10) (.cons (.op .sliceH false (.cons (.pk 10) (.cons (.int 1) .nil))) .nil))) (.cons (.op .add false (.cons (.op .sliceH false (.cons (.pk 10) (.cons (.op .neg false (.cons (.int 1) .nil)) .nil))) (.cons (.tup (.cons (.bl true) .nil)) .nil))) .nil))))) .nil))))
  (.seq (.exp (.mut .append 6 (.cons (.op .add false (.cons (.pk 10) (.cons (.tup (.cons (.var 4) .nil)) .nil))) .nil)))
  .skip))))))
  (.seq (.frz 6)
  (.seq (.for (.v 9) .seq (.cons (.var 6) .nil)
  (.seq (.ite (.not (.call 19 (.cons (.call 13 (.cons (.var 3) (.cons (.var 5) (.cons (.var 9) .nil)))) (.cons (.call 25 (.cons (.var 4) (.cons (.var 5) (.cons (.var 9) .nil)))) .nil))))
  (.seq (.ret (.bl false))
  .skip)
  .skip)
  (.seq (.ite (.not (.call 19 (.cons (.call 14 (.cons (.var 3) (.cons (.var 5) (.cons (.var 9) .nil)))) (.cons (.call 27 (.cons (.var 3) (.cons (.var 5) (.cons (.var 9) .nil)))) .nil))))
  (.seq (.ret (.bl false))
  .skip)
  .skip)
  .skip)))
  (.seq (.fgt 6 (.O .F))
  .skip))))))))))
  (.seq (.ret (.bl true))
  .skip)))
def d_law : DefC := ⟨"law", defArgs (top 37), defBody (top 37), defScope (top 37), ["script"], ["script", "pen", "lap", "web", "n", "told", "values", "ends", "turn", "value", "way", "at", "other"], [.F, (.O .F), .F, .F, .F, .F, (.O .F), .F, .F, .F, .F, .F, .F], ⟨1, [], 13, .F, b_law⟩, [none]⟩
def ds : List DefC := [d_is_whole, d_is_count, d_is_place, d_is_tie, d_is_web, d_need_web, d_as_tie, d_are_directions_in, d_need_directions, d_is_way_in, d_is_run_in, d_has_gap, d_is_shortcut_in, d_is_run, d_is_shortcut, d__law_pen, d__law_draw, d__law_pick, d__law_mixed, d__law_is, d__law_web, d__law_some_directions, d__law_tied, d__law_is_place, d__law_is_way, d__law_is_run, d__law_has_gap, d__law_is_shortcut, d__law_ways, d__law_some_way, d_law]
def bn : List Str := ["len", "int", "min", "max", "list", "tuple", "all", "isinstance", "bool", "range", "enumerate", "zip", "sorted"]
def P0 : Prg := ⟨ds.map DefC.fn, fun _ _ => false⟩
theorem run_is_whole (wf k : Nat) (x0 : D) : Dt.run P0 wf (k + 1) 0 [x0] = endF [] (evS ⟨Dt.run P0 wf k, wf, P0.sub⟩ b_is_whole [some x0]) := rfl
theorem run_is_count (wf k : Nat) (x0 : D) : Dt.run P0 wf (k + 1) 1 [x0] = endF [] (evS ⟨Dt.run P0 wf k, wf, P0.sub⟩ b_is_count [some x0]) := rfl
theorem run_is_place (wf k : Nat) (x0 x1 : D) : Dt.run P0 wf (k + 1) 2 [x0, x1] = endF [] (evS ⟨Dt.run P0 wf k, wf, P0.sub⟩ b_is_place [some x0, some x1]) := rfl
theorem run_is_tie (wf k : Nat) (x0 x1 : D) : Dt.run P0 wf (k + 1) 3 [x0, x1] = endF [] (evS ⟨Dt.run P0 wf k, wf, P0.sub⟩ b_is_tie [some x0, some x1, none]) := rfl
theorem run_is_web (wf k : Nat) (x0 : D) : Dt.run P0 wf (k + 1) 4 [x0] = endF [] (evS ⟨Dt.run P0 wf k, wf, P0.sub⟩ b_is_web [some x0, none, none, none]) := rfl
theorem run_need_web (wf k : Nat) (x0 : D) : Dt.run P0 wf (k + 1) 5 [x0] = endF [] (evS ⟨Dt.run P0 wf k, wf, P0.sub⟩ b_need_web [some x0]) := rfl
theorem run_as_tie (wf k : Nat) (x0 x1 : D) : Dt.run P0 wf (k + 1) 6 [x0, x1] = endF [] (evS ⟨Dt.run P0 wf k, wf, P0.sub⟩ b_as_tie [some x0, some x1]) := rfl
theorem run_are_directions_in (wf k : Nat) (x0 x1 : D) : Dt.run P0 wf (k + 1) 7 [x0, x1] = endF [] (evS ⟨Dt.run P0 wf k, wf, P0.sub⟩ b_are_directions_in [some x0, some x1, none, none, none]) := rfl
theorem run_need_directions (wf k : Nat) (x0 x1 : D) : Dt.run P0 wf (k + 1) 8 [x0, x1] = endF [] (evS ⟨Dt.run P0 wf k, wf, P0.sub⟩ b_need_directions [some x0, some x1]) := rfl
theorem run_is_way_in (wf k : Nat) (x0 x1 x2 : D) : Dt.run P0 wf (k + 1) 9 [x0, x1, x2] = endF [] (evS ⟨Dt.run P0 wf k, wf, P0.sub⟩ b_is_way_in [some x0, some x1, some x2, none, none, none]) := rfl
theorem run_is_run_in (wf k : Nat) (x0 x1 x2 : D) : Dt.run P0 wf (k + 1) 10 [x0, x1, x2] = endF [] (evS ⟨Dt.run P0 wf k, wf, P0.sub⟩ b_is_run_in [some x0, some x1, some x2]) := rfl
theorem run_has_gap (wf k : Nat) (x0 x1 : D) : Dt.run P0 wf (k + 1) 11 [x0, x1] = endF [] (evS ⟨Dt.run P0 wf k, wf, P0.sub⟩ b_has_gap [some x0, some x1, none, none, none]) := rfl
theorem run_is_shortcut_in (wf k : Nat) (x0 x1 x2 : D) : Dt.run P0 wf (k + 1) 12 [x0, x1, x2] = endF [] (evS ⟨Dt.run P0 wf k, wf, P0.sub⟩ b_is_shortcut_in [some x0, some x1, some x2]) := rfl
theorem run_is_run (wf k : Nat) (x0 x1 x2 : D) : Dt.run P0 wf (k + 1) 13 [x0, x1, x2] = endF [] (evS ⟨Dt.run P0 wf k, wf, P0.sub⟩ b_is_run [some x0, some x1, some x2]) := rfl
theorem run_is_shortcut (wf k : Nat) (x0 x1 x2 : D) : Dt.run P0 wf (k + 1) 14 [x0, x1, x2] = endF [] (evS ⟨Dt.run P0 wf k, wf, P0.sub⟩ b_is_shortcut [some x0, some x1, some x2]) := rfl
theorem run__law_pen (wf k : Nat) (x0 : D) : Dt.run P0 wf (k + 1) 15 [x0] = endF [] (evS ⟨Dt.run P0 wf k, wf, P0.sub⟩ b__law_pen [some x0, none, none]) := rfl
theorem run__law_draw (wf k : Nat) (x0 x1 : D) : Dt.run P0 wf (k + 1) 16 [x0, x1] = endF [0] (evS ⟨Dt.run P0 wf k, wf, P0.sub⟩ b__law_draw [some x0, some x1, none, none, none]) := rfl
theorem run__law_pick (wf k : Nat) (x0 x1 : D) : Dt.run P0 wf (k + 1) 17 [x0, x1] = endF [0] (evS ⟨Dt.run P0 wf k, wf, P0.sub⟩ b__law_pick [some x0, some x1]) := rfl
theorem run__law_mixed (wf k : Nat) (x0 x1 : D) : Dt.run P0 wf (k + 1) 18 [x0, x1] = endF [0] (evS ⟨Dt.run P0 wf k, wf, P0.sub⟩ b__law_mixed [some x0, some x1, none, none, none]) := rfl
theorem run__law_is (wf k : Nat) (x0 x1 : D) : Dt.run P0 wf (k + 1) 19 [x0, x1] = endF [] (evS ⟨Dt.run P0 wf k, wf, P0.sub⟩ b__law_is [some x0, some x1]) := rfl
theorem run__law_web (wf k : Nat) (x0 x1 x2 : D) : Dt.run P0 wf (k + 1) 20 [x0, x1, x2] = endF [0] (evS ⟨Dt.run P0 wf k, wf, P0.sub⟩ b__law_web [some x0, some x1, some x2, none, none, none, none, none]) := rfl
theorem run__law_some_directions (wf k : Nat) (x0 x1 : D) : Dt.run P0 wf (k + 1) 21 [x0, x1] = endF [0] (evS ⟨Dt.run P0 wf k, wf, P0.sub⟩ b__law_some_directions [some x0, some x1, none, none, none, none, none, none]) := rfl
theorem run__law_tied (wf k : Nat) (x0 x1 x2 : D) : Dt.run P0 wf (k + 1) 22 [x0, x1, x2] = endF [] (evS ⟨Dt.run P0 wf k, wf, P0.sub⟩ b__law_tied [some x0, some x1, some x2]) := rfl
theorem run__law_is_place (wf k : Nat) (x0 x1 : D) : Dt.run P0 wf (k + 1) 23 [x0, x1] = endF [] (evS ⟨Dt.run P0 wf k, wf, P0.sub⟩ b__law_is_place [some x0, some x1]) := rfl
theorem run__law_is_way (wf k : Nat) (x0 x1 x2 : D) : Dt.run P0 wf (k + 1) 24 [x0, x1, x2] = endF [] (evS ⟨Dt.run P0 wf k, wf, P0.sub⟩ b__law_is_way [some x0, some x1, some x2, none, none]) := rfl
theorem run__law_is_run (wf k : Nat) (x0 x1 x2 : D) : Dt.run P0 wf (k + 1) 25 [x0, x1, x2] = endF [] (evS ⟨Dt.run P0 wf k, wf, P0.sub⟩ b__law_is_run [some x0, some x1, some x2]) := rfl
theorem run__law_has_gap (wf k : Nat) (x0 x1 : D) : Dt.run P0 wf (k + 1) 26 [x0, x1] = endF [] (evS ⟨Dt.run P0 wf k, wf, P0.sub⟩ b__law_has_gap [some x0, some x1, none, none]) := rfl
theorem run__law_is_shortcut (wf k : Nat) (x0 x1 x2 : D) : Dt.run P0 wf (k + 1) 27 [x0, x1, x2] = endF [] (evS ⟨Dt.run P0 wf k, wf, P0.sub⟩ b__law_is_shortcut [some x0, some x1, some x2]) := rfl
theorem run__law_ways (wf k : Nat) (x0 x1 : D) : Dt.run P0 wf (k + 1) 28 [x0, x1] = endF [] (evS ⟨Dt.run P0 wf k, wf, P0.sub⟩ b__law_ways [some x0, some x1, none, none, none, none, none, none]) := rfl
theorem run__law_some_way (wf k : Nat) (x0 x1 x2 : D) : Dt.run P0 wf (k + 1) 29 [x0, x1, x2] = endF [0] (evS ⟨Dt.run P0 wf k, wf, P0.sub⟩ b__law_some_way [some x0, some x1, some x2, none, none, none, none, none]) := rfl
theorem run_law (wf k : Nat) (x0 : D) : Dt.run P0 wf (k + 1) 30 [x0] = endF [] (evS ⟨Dt.run P0 wf k, wf, P0.sub⟩ b_law [some x0, none, none, none, none, none, none, none, none, none, none, none, none]) := rfl
def fa : List He.Fa := [.glo "is_whole", .glo "is_count", .glo "is_place", .glo "is_tie", .glo "is_web", .glo "need_web", .glo "as_tie", .glo "are_directions_in", .glo "need_directions", .glo "is_way_in", .glo "is_run_in", .glo "has_gap", .glo "is_shortcut_in", .glo "is_run", .glo "is_shortcut", .glo "_law_pen", .glo "_law_draw", .glo "_law_pick", .glo "_law_mixed", .glo "_law_is", .glo "_law_web", .glo "_law_some_directions", .glo "_law_tied", .glo "_law_is_place", .glo "_law_is_way", .glo "_law_is_run", .glo "_law_has_gap", .glo "_law_is_shortcut", .glo "_law_ways", .glo "_law_some_way", .glo "law", .free "len", .free "int", .free "min", .free "max", .free "list", .free "tuple", .free "all", .free "isinstance", .free "bool", .free "range", .free "enumerate", .free "zip", .free "sorted"]
abbrev LS := List PySem.Str
def loose : List PySem.Str := ((["TurnError", "BadWeb", "BadPaper", "is_whole", "is_count", "is_place", "is_tie", "is_web", "need_web", "as_tie", "are_directions_in", "need_directions", "is_way_in", "is_run_in", "has_gap", "is_shortcut_in", "is_run", "is_shortcut", "_law_pen", "_law_draw", "_law_pick", "_law_mixed", "_law_is", "_law_web", "_law_some_directions", "_law_tied", "_law_is_place", "_law_is_way", "_law_is_run", "_law_has_gap"] : LS) ++ (["_law_is_shortcut", "_law_ways", "_law_some_way"] : LS))
abbrev R : PySem.W.OpenRow := PySem.W.OpenLaw.row PySem.Challenge.rw_turnabouts_k14_runs_and_shortcuts_judged
abbrev hk : PySem.W.Hook := He.hookX 6 fa (ds.map DefC.dd) [] [] noList
def ob (s : PySem.W.SharedT) : He.AlX := He.obsX 6 fa (ds.map DefC.dd) [] [] noList (HandSHeadRun.getT s)
theorem ob_eq (s : PySem.W.SharedT) : ob s = hk.obs s.abs := He.obsX_eq (HandSHeadRun.getT_eq s)
theorem run (w : World) : HandSHeadRun.RunEq R (PySem.W.view R.prog [37]) hk ob 4000 loose w := by
  intro os
  kernel_rfl
theorem chk : ds.all (fun d => defOk (ds.map DefC.sig) bn d) = true := by kernel_rfl
theorem bd_is_whole : d_is_whole.Bnd := fun _ _ _ _ _ _ us hl => match us, hl with
  | [_], _ => rfl
theorem bd_is_count : d_is_count.Bnd := fun _ _ _ _ _ _ us hl => match us, hl with
  | [_], _ => rfl
theorem bd_is_place : d_is_place.Bnd := fun _ _ _ _ _ _ us hl => match us, hl with
  | [_, _], _ => rfl
theorem bd_is_tie : d_is_tie.Bnd := fun _ _ _ _ _ _ us hl => match us, hl with
  | [_, _], _ => rfl
theorem bd_is_web : d_is_web.Bnd := fun _ _ _ _ _ _ us hl => match us, hl with
  | [_], _ => rfl
theorem bd_need_web : d_need_web.Bnd := fun _ _ _ _ _ _ us hl => match us, hl with
  | [_], _ => rfl
theorem bd_as_tie : d_as_tie.Bnd := fun _ _ _ _ _ _ us hl => match us, hl with
  | [_, _], _ => rfl
theorem bd_are_directions_in : d_are_directions_in.Bnd := fun _ _ _ _ _ _ us hl => match us, hl with
  | [_, _], _ => rfl
theorem bd_need_directions : d_need_directions.Bnd := fun _ _ _ _ _ _ us hl => match us, hl with
  | [_, _], _ => rfl
theorem bd_is_way_in : d_is_way_in.Bnd := fun _ _ _ _ _ _ us hl => match us, hl with
  | [_, _, _], _ => rfl
theorem bd_is_run_in : d_is_run_in.Bnd := fun _ _ _ _ _ _ us hl => match us, hl with
  | [_, _, _], _ => rfl
theorem bd_has_gap : d_has_gap.Bnd := fun _ _ _ _ _ _ us hl => match us, hl with
  | [_, _], _ => rfl
theorem bd_is_shortcut_in : d_is_shortcut_in.Bnd := fun _ _ _ _ _ _ us hl => match us, hl with
  | [_, _, _], _ => rfl
theorem bd_is_run : d_is_run.Bnd := fun _ _ _ _ _ _ us hl => match us, hl with
  | [_, _, _], _ => rfl
theorem bd_is_shortcut : d_is_shortcut.Bnd := fun _ _ _ _ _ _ us hl => match us, hl with
  | [_, _, _], _ => rfl
theorem bd__law_pen : d__law_pen.Bnd := fun _ _ _ _ _ _ us hl => match us, hl with
  | [_], _ => rfl
theorem bd__law_draw : d__law_draw.Bnd := fun _ _ _ _ _ _ us hl => match us, hl with
  | [_, _], _ => rfl
theorem bd__law_pick : d__law_pick.Bnd := fun _ _ _ _ _ _ us hl => match us, hl with
  | [_, _], _ => rfl
theorem bd__law_mixed : d__law_mixed.Bnd := fun _ _ _ _ _ _ us hl => match us, hl with
  | [_, _], _ => rfl
theorem bd__law_is : d__law_is.Bnd := fun _ _ _ _ _ _ us hl => match us, hl with
  | [_, _], _ => rfl
theorem bd__law_web : d__law_web.Bnd := fun _ _ _ _ _ _ us hl => match us, hl with
  | [_, _, _], _ => rfl
theorem bd__law_some_directions : d__law_some_directions.Bnd := fun _ _ _ _ _ _ us hl => match us, hl with
  | [_, _], _ => rfl
theorem bd__law_tied : d__law_tied.Bnd := fun _ _ _ _ _ _ us hl => match us, hl with
  | [_, _, _], _ => rfl
theorem bd__law_is_place : d__law_is_place.Bnd := fun _ _ _ _ _ _ us hl => match us, hl with
  | [_, _], _ => rfl
theorem bd__law_is_way : d__law_is_way.Bnd := fun _ _ _ _ _ _ us hl => match us, hl with
  | [_, _, _], _ => rfl
theorem bd__law_is_run : d__law_is_run.Bnd := fun _ _ _ _ _ _ us hl => match us, hl with
  | [_, _, _], _ => rfl
theorem bd__law_has_gap : d__law_has_gap.Bnd := fun _ _ _ _ _ _ us hl => match us, hl with
  | [_, _], _ => rfl
theorem bd__law_is_shortcut : d__law_is_shortcut.Bnd := fun _ _ _ _ _ _ us hl => match us, hl with
  | [_, _, _], _ => rfl
theorem bd__law_ways : d__law_ways.Bnd := fun _ _ _ _ _ _ us hl => match us, hl with
  | [_, _], _ => rfl
theorem bd__law_some_way : d__law_some_way.Bnd := fun _ _ _ _ _ _ us hl => match us, hl with
  | [_, _, _], _ => rfl
theorem bd_law : d_law.Bnd := fun _ _ _ _ _ _ us hl => match us, hl with
  | [_], _ => rfl
theorem bds : ∀ d ∈ ds, d.Bnd := List.forall_mem_cons.mpr ⟨bd_is_whole, List.forall_mem_cons.mpr ⟨bd_is_count, List.forall_mem_cons.mpr ⟨bd_is_place, List.forall_mem_cons.mpr ⟨bd_is_tie, List.forall_mem_cons.mpr ⟨bd_is_web, List.forall_mem_cons.mpr ⟨bd_need_web, List.forall_mem_cons.mpr ⟨bd_as_tie, List.forall_mem_cons.mpr ⟨bd_are_directions_in, List.forall_mem_cons.mpr ⟨bd_need_directions, List.forall_mem_cons.mpr ⟨bd_is_way_in, List.forall_mem_cons.mpr ⟨bd_is_run_in, List.forall_mem_cons.mpr ⟨bd_has_gap, List.forall_mem_cons.mpr ⟨bd_is_shortcut_in, List.forall_mem_cons.mpr ⟨bd_is_run, List.forall_mem_cons.mpr ⟨bd_is_shortcut, List.forall_mem_cons.mpr ⟨bd__law_pen, List.forall_mem_cons.mpr ⟨bd__law_draw, List.forall_mem_cons.mpr ⟨bd__law_pick, List.forall_mem_cons.mpr ⟨bd__law_mixed, List.forall_mem_cons.mpr ⟨bd__law_is, List.forall_mem_cons.mpr ⟨bd__law_web, List.forall_mem_cons.mpr ⟨bd__law_some_directions, List.forall_mem_cons.mpr ⟨bd__law_tied, List.forall_mem_cons.mpr ⟨bd__law_is_place, List.forall_mem_cons.mpr ⟨bd__law_is_way, List.forall_mem_cons.mpr ⟨bd__law_is_run, List.forall_mem_cons.mpr ⟨bd__law_has_gap, List.forall_mem_cons.mpr ⟨bd__law_is_shortcut, List.forall_mem_cons.mpr ⟨bd__law_ways, List.forall_mem_cons.mpr ⟨bd__law_some_way, List.forall_mem_cons.mpr ⟨bd_law, fun _ h => (nomatch h)⟩⟩⟩⟩⟩⟩⟩⟩⟩⟩⟩⟩⟩⟩⟩⟩⟩⟩⟩⟩⟩⟩⟩⟩⟩⟩⟩⟩⟩⟩⟩
theorem bls : ∀ x ∈ bn, He.Fa.free x ∈ fa := by
  intro x hx
  simp only [bn, List.mem_cons, List.not_mem_nil, or_false] at hx
  rcases hx with rfl | rfl | rfl | rfl | rfl | rfl | rfl | rfl | rfl | rfl | rfl | rfl | rfl <;> simp [fa]
theorem gls : ∀ d ∈ ds, He.Fa.glo d.name ∈ fa := by
  intro d hd
  simp only [ds, List.mem_cons, List.not_mem_nil, or_false] at hd
  rcases hd with rfl | rfl | rfl | rfl | rfl | rfl | rfl | rfl | rfl | rfl | rfl | rfl | rfl | rfl | rfl | rfl | rfl | rfl | rfl | rfl | rfl | rfl | rfl | rfl | rfl | rfl | rfl | rfl | rfl | rfl | rfl <;> simp [fa, d_is_whole, d_is_count, d_is_place, d_is_tie, d_is_web, d_need_web, d_as_tie, d_are_directions_in, d_need_directions, d_is_way_in, d_is_run_in, d_has_gap, d_is_shortcut_in, d_is_run, d_is_shortcut, d__law_pen, d__law_draw, d__law_pick, d__law_mixed, d__law_is, d__law_web, d__law_some_directions, d__law_tied, d__law_is_place, d__law_is_way, d__law_is_run, d__law_has_gap, d__law_is_shortcut, d__law_ways, d__law_some_way, d_law]
end K14
open PySem PySem.W PySem.Calls PyProof.Rows
theorem K14.holds (main : ∀ ns : List Int, ns.length ≤ 63 → ∃ ls, Dt.run K14.P0 12 30 30 [.list (ns.map .int)] = .ret (.bool true) ls) : PySem.Challenge.rw_turnabouts_k14_runs_and_shortcuts_judged.Holds := by
  w_on; o_law
  refine HandSHeadRun.head_any (r := OpenLaw.row PySem.Challenge.rw_turnabouts_k14_runs_and_shortcuts_judged) (q := view (OpenLaw.row PySem.Challenge.rw_turnabouts_k14_runs_and_shortcuts_judged).prog [37]) (H := K14.hk) (ob := K14.ob) (M := 4000) (loose := K14.loose) (d := HandSHeadRun.topDef (OpenLaw.row PySem.Challenge.rw_turnabouts_k14_runs_and_shortcuts_judged).prog 37) (kwd := []) K14.ob_eq
    (by kernel_rfl) (fun s => by kernel_rfl) K14.run (by kernel_rfl) (by kernel_rfl) (by kernel_rfl) (by rfl) (by first | assumption | decide +kernel) (by decide +kernel) ⟨rfl, rfl, rfl, rfl, rfl, by decide +kernel⟩ ?hw ?hc
  case hw => w_witness2
  case hc => exact Dt.law_end (l := PySem.Challenge.rw_turnabouts_k14_runs_and_shortcuts_judged) (x := "script") (n := 63) (k := 30) (ex := Dt.noList) K14.P0 12 rfl (by decide) (by kernel_rfl) ⟨rfl, by decide, by decide⟩ (by kernel_rfl) (fun _ h => h) rfl K14.chk K14.bls K14.gls K14.bds (show K14.ds[30]? = some K14.d_law from rfl) rfl rfl rfl rfl main
end
section
set_option Elab.async false
set_option linter.all false
set_option maxRecDepth 100000
set_option maxHeartbeats 4000000
/-! Reckoning: operations by their data. -/
namespace Dt
open PySem
theorem opR_f {o : Op} {ds : List D} : opR o false ds = opF o ds := by
  unfold opR
  cases opF o ds <;> rfl
theorem opR_t {o : Op} {ds : List D} {d : D} (h : opF o ds = some d) (f : frD o d = true) : opR o true ds = some d := by
  unfold opR
  rw [h, Option.bind_some, if_pos rfl, if_pos f]
section
variable {a b c : D}
theorem oF_add : opF .add [a, b] = fAdd a b := id rfl
theorem oF_sub : opF .sub [a, b] = fSub a b := id rfl
theorem oF_neg : opF .neg [a] = fNeg a := id rfl
theorem oF_eq : opF .eq [a, b] = dBool (dEq a b) := id rfl
theorem oF_ne : opF .ne [a, b] = dBool ((dEq a b).map (!·)) := id rfl
theorem oF_lt : opF .lt [a, b] = dBool (dLt a b) := id rfl
theorem oF_gt : opF .gt [a, b] = dBool (dGt a b) := id rfl
theorem oF_le : opF .le [a, b] = dBool (dLe a b) := id rfl
theorem oF_ge : opF .ge [a, b] = dBool (dLe b a) := id rfl
theorem oF_in : opF .isIn [a, b] = dBool (dIn a b) := id rfl
theorem oF_nin : opF .notIn [a, b] = dBool ((dIn a b).map (!·)) := id rfl
theorem oF_isN : opF .isN [a] = some (.bool (isNone a)) := id rfl
theorem oF_notN : opF .notN [a] = some (.bool (!isNone a)) := id rfl
theorem oF_idx : opF .idx [a, b] = fIdx a b := id rfl
theorem oF_slice : opF .slice [a, b, c] = fSlice a b c := id rfl
theorem oF_sliceL : opF .sliceL [a, b] = fSliceL a b := id rfl
theorem oF_sliceH : opF .sliceH [a, b] = fSliceH a b := id rfl
theorem oF_rev : opF .rev [a] = fRev a := id rfl
theorem oF_len : opF .len [a] = fLen a := id rfl
theorem oF_int : opF .int [a] = fInt a := id rfl
theorem oF_min2 : opF .min2 [a, b] = fMin2 a b := id rfl
theorem oF_max2 : opF .max2 [a, b] = fMax2 a b := id rfl
theorem oF_list : opF .list [a] = fList a := id rfl
theorem oF_tuple : opF .tuple [a] = fTuple a := id rfl
theorem oF_sorted : opF .sorted [a] = fSorted a := id rfl
theorem oF_all : opF .all [a] = fAll a := id rfl
theorem oF_any : opF .any [a] = fAny a := id rfl
theorem oF_isInt : opF .isInt [a] = some (.bool (isIntD a)) := id rfl
theorem oF_isBool : opF .isBool [a] = some (.bool (isBoolD a)) := id rfl
theorem oF_isTuple : opF .isTuple [a] = some (.bool (isTupleD a)) := id rfl
theorem oF_isList : opF .isList [a] = some (.bool (isListD a)) := id rfl
theorem oF_isStr : opF .isStr [a] = some (.bool (isStrD a)) := id rfl
theorem oF_range1 : opF .range1 [a] = fRange1 a := id rfl
theorem oF_range2 : opF .range2 [a, b] = fRange2 a b := id rfl
theorem oF_count : opF .count [a, b] = fCount a b := id rfl
theorem oF_index : opF .index [a, b] = fIndex a b := id rfl
theorem oF_index3 : opF .index3 [a, b, c] = fIndex3 a b c := id rfl
end
theorem dB_s {x : Bool} : dBool (some x) = some (.bool x) := id rfl
section
variable {i j : Int} {xs ys : List D}
theorem fAdd_ii : fAdd (.int i) (.int j) = some (.int (i + j)) := id rfl
theorem fSub_ii : fSub (.int i) (.int j) = some (.int (i - j)) := id rfl
theorem fNeg_i : fNeg (.int i) = some (.int (-i)) := id rfl
theorem fLen_L : fLen (.list xs) = some (.int (xs.length : Nat)) := id rfl
theorem fLen_T : fLen (.tuple xs) = some (.int (xs.length : Nat)) := id rfl
theorem fLen_D {es : List (D × D)} : fLen (.dict es) = some (.int (es.length : Nat)) := id rfl
theorem fInt_i : fInt (.int i) = some (.int i) := id rfl
theorem dLt_ii : dLt (.int i) (.int j) = some (decide (i < j)) := id rfl
theorem dGt_ii : dGt (.int i) (.int j) = some (decide (j < i)) := id rfl
theorem dLe_ii : dLe (.int i) (.int j) = some (decide (i ≤ j)) := id rfl
theorem fIdx_L : fIdx (.list xs) (.int i) = atD xs i := id rfl
theorem fIdx_T : fIdx (.tuple xs) (.int i) = atD xs i := id rfl
theorem fRev_L : fRev (.list xs) = some (.list xs.reverse) := id rfl
theorem fRev_T : fRev (.tuple xs) = some (.tuple xs.reverse) := id rfl
theorem fList_L : fList (.list xs) = some (.list xs) := id rfl
theorem fList_T : fList (.tuple xs) = some (.list xs) := id rfl
theorem fTuple_L : fTuple (.list xs) = some (.tuple xs) := id rfl
theorem fTuple_T : fTuple (.tuple xs) = some (.tuple xs) := id rfl
theorem fMin2_ii : fMin2 (.int i) (.int j) = some (.int (if j < i then j else i)) := id rfl
theorem fMax2_ii : fMax2 (.int i) (.int j) = some (.int (if j > i then j else i)) := id rfl
theorem fSlH_T : fSliceH (.tuple xs) (.int i) = some (.tuple (cutD xs none (some i))) := id rfl
theorem fSlL_T : fSliceL (.tuple xs) (.int i) = some (.tuple (cutD xs (some i) none)) := id rfl
theorem fSlH_L : fSliceH (.list xs) (.int i) = some (.list (cutD xs none (some i))) := id rfl
theorem fSlL_L : fSliceL (.list xs) (.int i) = some (.list (cutD xs (some i) none)) := id rfl
theorem sl24 : sizeLine = 16777216 := sizeLine_eq
theorem fAdd_TT (h : xs.length + ys.length ≤ 16777216) : fAdd (.tuple xs) (.tuple ys) = some (.tuple (xs ++ ys)) := by
  unfold fAdd
  simp only
  rw [if_pos (by rw [sl24]; exact h)]
theorem fAdd_LL (h : xs.length + ys.length ≤ 16777216) : fAdd (.list xs) (.list ys) = some (.list (xs ++ ys)) := by
  unfold fAdd
  simp only
  rw [if_pos (by rw [sl24]; exact h)]
theorem at_nat {α : Type} {l : List α} {k : Nat} (h : k < l.length) : atD l (k : Int) = some l[k] := by
  unfold atD ixD
  rw [if_pos (by omega), if_pos (by omega), Option.bind_some, Int.toNat_natCast, List.getElem?_eq_getElem h]
theorem at_int {α : Type} {l : List α} {i : Int} (h0 : 0 ≤ i) (h : i < l.length) : atD l i = some (l[i.toNat]'(by omega)) := by
  have := at_nat (l := l) (k := i.toNat) (by omega)
  rw [show ((i.toNat : Nat) : Int) = i by omega] at this
  exact this
theorem at_last {α : Type} {l : List α} (h : 0 < l.length) : atD l (-1) = some (l[l.length - 1]'(by omega)) := by
  unfold atD ixD
  rw [if_neg (by decide), if_pos (by omega), Option.bind_some, show ((-1 : Int) + (l.length : Nat)).toNat = l.length - 1 by omega, List.getElem?_eq_getElem (by omega)]
theorem at_0 {x : D} : atD (x :: xs) 0 = some x := by
  unfold atD ixD
  rw [if_pos (by decide), if_pos (by simp only [List.length_cons]; omega)]
  rfl
theorem at_1 {x y : D} : atD (x :: y :: xs) 1 = some y := by
  unfold atD ixD
  rw [if_pos (by decide), if_pos (by simp only [List.length_cons]; omega)]
  rfl
end
/-! data that may be compared -/
def okL (ds : List D) : Prop := PyData.canLayAll0 ds = true ∧ PyData.depthAll ds ≤ 60
theorem canLay_cons {d : D} {ds : List D} : PyData.canLayAll0 (d :: ds) = (d.canLay0 && PyData.canLayAll0 ds) := by simp [PyData.canLayAll0]
theorem depth_cons {d : D} {ds : List D} : PyData.depthAll (d :: ds) = max d.depth (PyData.depthAll ds) := by simp [PyData.depthAll]
theorem okL_nil : okL [] := ⟨by simp [PyData.canLayAll0], by simp [PyData.depthAll]⟩
theorem okL_cons {d : D} {ds : List D} : okL (d :: ds) ↔ (d.canLay0 = true ∧ d.depth ≤ 60) ∧ okL ds := by
  unfold okL
  rw [canLay_cons, depth_cons, Bool.and_eq_true]
  constructor
  · rintro ⟨⟨h1, h2⟩, h3⟩
    exact ⟨⟨h1, by omega⟩, h2, by omega⟩
  · rintro ⟨⟨h1, h2⟩, h3, h4⟩
    exact ⟨⟨h1, h3⟩, by omega⟩
theorem okL_mem {ds : List D} : okL ds ↔ ∀ d ∈ ds, d.canLay0 = true ∧ d.depth ≤ 60 := by
  induction ds with
  | nil => exact ⟨fun _ _ h => (nomatch h), fun _ => okL_nil⟩
  | cons d ds ih => rw [okL_cons, ih]; simp
theorem okL_sub {ds es : List D} (h : okL ds) (s : ∀ d ∈ es, d ∈ ds) : okL es := okL_mem.mpr fun d hd => okL_mem.mp h d (s d hd)
theorem okL_app {ds es : List D} (h : okL ds) (k : okL es) : okL (ds ++ es) := okL_mem.mpr fun d hd => (List.mem_append.mp hd).elim (okL_mem.mp h d) (okL_mem.mp k d)
theorem okL_list {ds : List D} (h : okL ds) : okD (.list ds) = true := by
  show (PyData.canLayAll0 ds && decide (PyData.depth (.list ds) ≤ 64)) = true
  rw [h.1]
  have := h.2
  have : PyData.depth (.list ds) ≤ 64 := by
    simp only [PyData.depth]
    omega
  simp [this]
theorem okL_tuple {ds : List D} (h : okL ds) : okD (.tuple ds) = true := by
  show (PyData.canLayAll0 ds && decide (PyData.depth (.tuple ds) ≤ 64)) = true
  rw [h.1]
  have := h.2
  have : PyData.depth (.tuple ds) ≤ 64 := by
    simp only [PyData.depth]
    omega
  simp [this]
theorem lay_of_ok {d : D} (h : okD d = true) : d.canLay0 = true := SeqAt.canLay_of_shaped h
theorem okL_int {i : Int} : (PyData.int i).canLay0 = true ∧ (PyData.int i).depth ≤ 60 := ⟨rfl, by simp [PyData.depth]⟩
theorem okL_bool {i : Bool} : (PyData.bool i).canLay0 = true ∧ (PyData.bool i).depth ≤ 60 := ⟨rfl, by simp [PyData.depth]⟩
abbrev iL (w : List Int) : List D := w.map PyData.int
abbrev tp (w : List Int) : D := .tuple (iL w)
theorem okL_ints (w : List Int) : okL (iL w) := okL_mem.mpr fun d hd => by
  obtain ⟨x, _, rfl⟩ := List.mem_map.mp hd
  exact okL_int
theorem okD_int (x : Int) : okD (.int x) = true := rfl
theorem eqv_int (x y : Int) : PyData.eqv (.int x) (.int y) = decide (x = y) := by
  simp [PyData.eqv, Bool.beq_eq_decide_eq]
theorem dEq_ii {i j : Int} : dEq (.int i) (.int j) = some (decide (i = j)) := by
  show (if okD (.int i) && okD (.int j) then some (PyData.eqv (.int i) (.int j)) else none) = _
  rw [eqv_int]
  rfl
theorem dEq_bb {i j : Bool} : dEq (.bool i) (.bool j) = some (decide (i = j)) := by
  show (if okD (.bool i) && okD (.bool j) then some (PyData.eqv (.bool i) (.bool j)) else none) = _
  rw [show okD (.bool i) = true from rfl, show okD (.bool j) = true from rfl]
  simp [PyData.eqv, Bool.beq_eq_decide_eq]
theorem dEq_nil {ds : List D} (h : okL ds) : dEq (.list ds) (.list []) = some ds.isEmpty := by
  show (if okD (.list ds) && okD (.list []) then some (PyData.eqv (.list ds) (.list [])) else none) = _
  rw [okL_list h, okL_list okL_nil]
  simp only [Bool.and_self, if_true]
  cases ds <;> simp [PyData.eqv, PyData.eqvAll]
theorem bools_map {α : Type} (p : α → Bool) : ∀ l : List α, boolsOf (l.map fun x => PyData.bool (p x)) = some (l.map p)
  | [] => rfl
  | x :: l => by
    show (boolsOf (l.map fun x => PyData.bool (p x))).map (p x :: ·) = _
    rw [bools_map p l]
    rfl
theorem fAll_map {α : Type} (p : α → Bool) (l : List α) : fAll (.list (l.map fun x => PyData.bool (p x))) = some (.bool (l.all p)) := by
  show (boolsOf (l.map fun x => PyData.bool (p x))).map (fun bs => PyData.bool (bs.all id)) = _
  rw [bools_map]
  simp
/-! pairs -/
abbrev tw (p : Int × Int) : D := .tuple [.int p.1, .int p.2]
abbrev tws (ps : List (Int × Int)) : D := .tuple (ps.map tw)
theorem okL_pair {a b : Int} : (tw (a, b)).canLay0 = true ∧ (tw (a, b)).depth ≤ 60 := by
  refine ⟨?_, ?_⟩
  · simp [PyData.canLay0, PyData.canLayAll0]
  · simp [PyData.depth, PyData.depthAll]
theorem okL_tws (ps : List (Int × Int)) : okL (ps.map tw) := okL_mem.mpr fun d hd => by
  obtain ⟨⟨a, b⟩, _, rfl⟩ := List.mem_map.mp hd
  exact okL_pair
theorem eqv_tw (p q : Int × Int) : PyData.eqv (tw p) (tw q) = decide (p = q) := by
  obtain ⟨a, b⟩ := p
  obtain ⟨c, d⟩ := q
  simp [PyData.eqv, PyData.eqvAll, eqv_int, Bool.beq_eq_decide_eq]
theorem okD_tw (p : Int × Int) : okD (tw p) = true := okL_tuple (okL_ints [p.1, p.2])
theorem dEq_tw {p q : Int × Int} : dEq (tw p) (tw q) = some (decide (p = q)) := by
  show (if okD (tw p) && okD (tw q) then some (PyData.eqv (tw p) (tw q)) else none) = _
  rw [okD_tw, okD_tw, eqv_tw]
  rfl
theorem any_tw (ps : List (Int × Int)) (q : Int × Int) : ((ps.map tw).any fun z => PyData.eqv z (tw q)) = decide (q ∈ ps) := by
  rw [Bool.eq_iff_iff, List.any_eq_true, decide_eq_true_eq]
  constructor
  · rintro ⟨z, hz, e⟩
    obtain ⟨p, hp, rfl⟩ := List.mem_map.mp hz
    rw [eqv_tw, decide_eq_true_eq] at e
    rwa [← e]
  · intro h
    exact ⟨tw q, List.mem_map_of_mem h, by rw [eqv_tw]; simp⟩
theorem dIn_tw {ps : List (Int × Int)} {a b : Int} : dIn (.tuple [.int a, .int b]) (.tuple (ps.map tw)) = some (decide ((a, b) ∈ ps)) := by
  show (if okD (tw (a, b)) && okD (tws ps) then some ((ps.map tw).any fun z => PyData.eqv z (tw (a, b))) else none) = _
  rw [okD_tw, okL_tuple (okL_tws ps), any_tw]
  rfl
theorem any_int (w : List Int) (x : Int) : ((iL w).any fun z => PyData.eqv z (.int x)) = decide (x ∈ w) := by
  rw [Bool.eq_iff_iff, List.any_eq_true, decide_eq_true_eq]
  constructor
  · rintro ⟨z, hz, e⟩
    obtain ⟨p, hp, rfl⟩ := List.mem_map.mp hz
    rw [eqv_int, decide_eq_true_eq] at e
    rwa [← e]
  · intro h
    exact ⟨.int x, List.mem_map_of_mem h, by rw [eqv_int]; simp⟩
theorem dIn_iT {w : List Int} {x : Int} : dIn (.int x) (tp w) = some (decide (x ∈ w)) := by
  show (if okD (.int x) && okD (tp w) then some ((iL w).any fun z => PyData.eqv z (.int x)) else none) = _
  rw [okL_tuple (okL_ints w), any_int]
  rfl
theorem dIn_iL {w : List Int} {x : Int} : dIn (.int x) (.list (iL w)) = some (decide (x ∈ w)) := by
  show (if okD (.int x) && okD (.list (iL w)) then some ((iL w).any fun z => PyData.eqv z (.int x)) else none) = _
  rw [okL_list (okL_ints w), any_int]
  rfl
section
variable {V : Ev} {σ : Sl}
theorem evE_chn {o o' a b c} : evE V (.chn o o' a b c) σ = (evE V a σ).bind fun x σ => (evE V b σ).bind fun y σ => chnO o' y (evE V c) σ (opF o [x, y]) := by rw [evE]
theorem evE_meth {o a as} : evE V (.meth o a as) σ = (evE V a σ).bind fun x σ => if isSeqD x then (evL V as σ).bind fun ds σ => ofO (opF o (x :: ds)) σ else .bad := by rw [evE]
theorem chnO_t {o' y} {e : Sl → Out D} : chnO o' y e σ (some (.bool true)) = (e σ).bind fun z σ => ofO (opF o' [y, z]) σ := id rfl
theorem chnO_f {o' y} {e : Sl → Out D} : chnO o' y e σ (some (.bool false)) = .ok (.bool false) σ := id rfl
theorem evL_meth {o a as r} : evL V (.cons (.meth o a as) r) σ = (evE V (.meth o a as) σ).bind fun d σ => (evL V r σ).bind fun ds σ => .ok (d :: ds) σ := evL_cons rfl σ
theorem evL_mut {o i as r} : evL V (.cons (.mut o i as) r) σ = (evE V (.mut o i as) σ).bind fun d σ => (evL V r σ).bind fun ds σ => .ok (d :: ds) σ := evL_cons rfl σ
theorem evL_chn {o o' a b c r} : evL V (.cons (.chn o o' a b c) r) σ = (evE V (.chn o o' a b c) σ).bind fun d σ => (evL V r σ).bind fun ds σ => .ok (d :: ds) σ := evL_cons rfl σ
theorem evS_unp {tg e} : evS V (.unp tg e) σ = SOut.ofE (evE V e σ) fun d σ => (match asgT tg d σ with | some σ => .nx σ | none => .bad) := by
  rw [evS]
  all_goals congr 1
theorem evS_fgt {i m} : evS V (.fgt i m) σ = .nx (σ.set i none) := by rw [evS]
theorem evS_whl {t b} : evS V (.whl t b) σ = whlLoop (evT V t) (evS V b) V.wf σ := by rw [evS]
end
/-- a for that returns r at the first item at which p -/
theorem for_find {f : D → Sl → SOut} (Inv : Sl → Prop) (p : D → Bool) (r : D) : ∀ {items : List D} {σ : Sl}, Inv σ → (∀ d ∈ items, ∀ σ, Inv σ → (p d = true → ∃ σ', f d σ = .ret r σ') ∧ (p d = false → ∃ σ', f d σ = .nx σ' ∧ Inv σ')) →
    (items.any p = true → ∃ σ', forLoop f items σ = .ret r σ') ∧ (items.any p = false → ∃ σ', forLoop f items σ = .nx σ' ∧ Inv σ')
  | [], σ, h, _ => ⟨fun h => (nomatch h), fun _ => ⟨σ, rfl, h⟩⟩
  | d :: ds, σ, h, step => by
    obtain ⟨s1, s2⟩ := step d (List.mem_cons_self ..) σ h
    rw [List.any_cons]
    cases hp : p d with
    | true =>
      obtain ⟨σ', e⟩ := s1 hp
      refine ⟨fun _ => ⟨σ', ?_⟩, fun z => (nomatch z)⟩
      rw [forLoop, e]
    | false =>
      obtain ⟨σ', e, h'⟩ := s2 hp
      obtain ⟨q1, q2⟩ := for_find Inv p r (items := ds) h' fun d m => step d (List.mem_cons_of_mem _ m)
      simp only [Bool.false_or]
      refine ⟨fun k => ?_, fun k => ?_⟩
      · obtain ⟨σ2, e2⟩ := q1 k
        refine ⟨σ2, ?_⟩
        rw [forLoop, e]
        exact e2
      · obtain ⟨σ2, e2, h2⟩ := q2 k
        refine ⟨σ2, ?_, h2⟩
        rw [forLoop, e]
        exact e2
/-- how many different ones -/
theorem dedup_all : ∀ {r ks : List Int}, (dedup ks r).length = ks.length + r.length ↔ r.Nodup ∧ ∀ x ∈ r, x ∉ ks
  | [], ks => by simp [dedup]
  | x :: r, ks => by
    rw [dedup]
    by_cases m : x ∈ ks
    · rw [if_pos m]
      have := dedup_le (r := r) (ks := ks)
      constructor
      · intro h
        rw [List.length_cons] at h
        omega
      · rintro ⟨_, h⟩
        exact (h x (List.mem_cons_self ..) m).elim
    · rw [if_neg m]
      have ih := dedup_all (r := r) (ks := ks ++ [x])
      rw [List.length_append, List.length_singleton] at ih
      rw [List.length_cons, show ks.length + (r.length + 1) = ks.length + 1 + r.length by omega, ih, List.nodup_cons]
      constructor
      · rintro ⟨h1, h2⟩
        refine ⟨⟨fun h => h2 x h (by simp), h1⟩, fun y hy => ?_⟩
        rcases List.mem_cons.mp hy with rfl | hy
        · exact m
        · exact fun z => h2 y hy (List.mem_append_left _ z)
      · rintro ⟨⟨h1, h2⟩, h3⟩
        refine ⟨h2, fun y hy z => ?_⟩
        rcases List.mem_append.mp z with z | z
        · exact h3 y (List.mem_cons_of_mem _ hy) z
        · rw [List.mem_singleton.mp z] at hy
          exact h1 hy
theorem sIx_nn (n : Nat) : HT.sIx n n none = n := rfl
theorem sIx_z (n : Nat) : HT.sIx n 0 none = 0 := rfl
theorem sIx_pos (n d : Nat) (v : Nat) : HT.sIx n d (some (v : Int)) = min v n := by
  show (if (v : Int) < 0 then ((v : Int) + n).toNat else min (v : Int).toNat n) = _
  rw [if_neg (by omega), Int.toNat_natCast]
theorem cut_lo {α : Type} (xs : List α) (v : Nat) : cutD xs (some (v : Int)) none = xs.drop v := by
  unfold cutD
  rw [sIx_pos, sIx_nn]
  by_cases h : v ≤ xs.length
  · rw [Nat.min_eq_left h]
    exact List.take_of_length_le (by rw [List.length_drop]; exact Nat.le_refl _)
  · have h : xs.length ≤ v := by omega
    rw [Nat.min_eq_right h, List.drop_eq_nil_of_le h, List.drop_eq_nil_of_le (Nat.le_refl _)]
    simp
theorem cut_hi {α : Type} (xs : List α) (v : Nat) : cutD xs none (some (v : Int)) = xs.take v := by
  unfold cutD
  rw [sIx_pos, sIx_z, List.drop_zero, Nat.sub_zero]
  by_cases h : v ≤ xs.length
  · rw [Nat.min_eq_left h]
  · have h : xs.length ≤ v := by omega
    rw [Nat.min_eq_right h, List.take_of_length_le h, List.take_of_length_le (Nat.le_refl _)]
theorem mem_cut {α : Type} {xs : List α} {lo hi : Option Int} {x : α} (h : x ∈ cutD xs lo hi) : x ∈ xs := List.mem_of_mem_drop (List.mem_of_mem_take h)
theorem len_cut {α : Type} {xs : List α} {lo hi : Option Int} : (cutD xs lo hi).length ≤ xs.length := by
  unfold cutD
  rw [List.length_take, List.length_drop]
  omega
end Dt
end
section
set_option Elab.async false
set_option linter.all false
set_option maxRecDepth 100000
set_option maxHeartbeats 4000000
namespace K14
open PySem Dt
theorem inR_of {i : Int} (h1 : -1000 ≤ i) (h2 : i ≤ 1000) : inR i = true := by
  unfold inR
  rw [decide_eq_true (by omega), decide_eq_true (by omega)]
  rfl
theorem rg_len (a b : Int) : (rangeD a b).length = (b - a).toNat := by unfold rangeD; rw [List.length_map, List.length_range]
theorem rg_mem {a b : Int} {d : D} (h : d ∈ rangeD a b) : ∃ i : Int, d = .int i ∧ a ≤ i ∧ i < b := by
  unfold rangeD at h
  obtain ⟨j, hj, rfl⟩ := List.mem_map.mp h
  have := List.mem_range.mp hj
  exact ⟨a + j, rfl, by omega, by omega⟩
theorem it_r1 (n : Nat) (h : n ≤ 1000) : itR1 (.int n) = some (rangeD 0 n) := by
  show (if inR (n : Int) then some (rangeD 0 n) else none) = _
  rw [if_pos (inR_of (by omega) (by omega))]
theorem it_r2 (a : Int) (n : Nat) (h : n ≤ 1000) (h1 : 0 ≤ a) (h2 : a ≤ 1000) : itR2 (.int a) (.int n) = some (rangeD a n) := by
  show (if inR a && inR (n : Int) then some (rangeD a n) else none) = _
  rw [inR_of (by omega) (by omega), inR_of (by omega) (by omega)]
  rfl
theorem e_add (a b : Int) : opR .add false [PyData.int a, .int b] = some (.int (a + b)) := rfl
/-! ### the pen -/
abbrev P (cells : List Int) (at_ dg ct fd : Int) : D := .dict [(.str "cells", .list (iL cells)), (.str "at", .int at_), (.str "digits", .int dg), (.str "count", .int ct), (.str "fold", .int fd)]
section
variable {cells : List Int} {at_ dg ct fd : Int}
theorem g_cells : opR .idx false [P cells at_ dg ct fd, .str "cells"] = some (.list (iL cells)) := by kernel_rfl
theorem g_at : opR .idx false [P cells at_ dg ct fd, .str "at"] = some (.int at_) := by kernel_rfl
theorem g_digits : opR .idx false [P cells at_ dg ct fd, .str "digits"] = some (.int dg) := by kernel_rfl
theorem g_count : opR .idx false [P cells at_ dg ct fd, .str "count"] = some (.int ct) := by kernel_rfl
theorem g_fold : opR .idx false [P cells at_ dg ct fd, .str "fold"] = some (.int fd) := by kernel_rfl
theorem put_any {es : List (D × D)} {x : Str} {v : D} (h : es.length ≤ 1000) (k : kindOk es (.k (.inr x)) = true) : mopF .set (.dict es) [.str x, v] = some (.none, .dict (dPut es (.k (.inr x)) (.str x) v)) := by
  unfold mopF
  show (some (Sum.inr x)).bind (fun y => if es.length < sizeLine ∧ kindOk es (.k y) = true then some (PyData.none, PyData.dict (dPut es (.k y) (.str x) v)) else none) = _
  rw [Option.bind_some, if_pos ⟨by rw [sl24]; omega, k⟩]
theorem s_at {v : Int} : mopF .set (P cells at_ dg ct fd) [.str "at", .int v] = some (.none, P cells v dg ct fd) := by
  rw [put_any (by simp) (by kernel_rfl)]
  kernel_rfl
theorem s_digits {v : Int} : mopF .set (P cells at_ dg ct fd) [.str "digits", .int v] = some (.none, P cells at_ v ct fd) := by
  rw [put_any (by simp) (by kernel_rfl)]
  kernel_rfl
theorem s_count {v : Int} : mopF .set (P cells at_ dg ct fd) [.str "count", .int v] = some (.none, P cells at_ dg v fd) := by
  rw [put_any (by simp) (by kernel_rfl)]
  kernel_rfl
theorem s_fold {v : Int} : mopF .set (P cells at_ dg ct fd) [.str "fold", .int v] = some (.none, P cells at_ dg ct v) := by
  rw [put_any (by simp) (by kernel_rfl)]
  kernel_rfl
end
theorem e_sub (a b : Int) : opR .sub false [PyData.int a, .int b] = some (.int (a - b)) := rfl
theorem e_int (a : Int) : opR .int false [PyData.int a] = some (.int a) := rfl
theorem e_gt (a b : Int) : opR .gt false [PyData.int a, .int b] = some (.bool (decide (b < a))) := rfl
theorem e_lt (a b : Int) : opR .lt false [PyData.int a, .int b] = some (.bool (decide (a < b))) := rfl
theorem e_ge (a b : Int) : opR .ge false [PyData.int a, .int b] = some (.bool (decide (b ≤ a))) := rfl
theorem e_eqi (a b : Int) : opR .eq false [PyData.int a, .int b] = some (.bool (decide (a = b))) := by
  show (dBool (dEq (.int a) (.int b))).bind _ = _
  rw [dEq_ii]
  rfl
theorem e_lenL (l : List Int) : opR .len false [PyData.list (iL l)] = some (.int (l.length : Nat)) := by
  show some (PyData.int ((iL l).length : Nat)) = _
  rw [List.length_map]
theorem e_mul (a b : Int) (h : -(2 ^ 64) < b ∧ b < 2 ^ 64) : opR .mul false [PyData.int a, .int b] = some (.int (a * b)) := by
  unfold opR
  have e : opF .mul [PyData.int a, .int b] = some (.int (a * b)) := by
    show (if (-(2 ^ 64) < a ∧ a < 2 ^ 64) ∨ (-(2 ^ 64) < b ∧ b < 2 ^ 64) then some (PyData.int (a * b)) else none) = _
    rw [if_pos (.inr h)]
  rw [e]
  simp only [Option.bind_some, Bool.false_eq_true, if_false]
theorem e_mod (a b : Int) (h : 0 < b) : opR .mod false [PyData.int a, .int b] = some (.int (a % b)) := by
  unfold opR
  have e : opF .mod [PyData.int a, .int b] = some (.int (a % b)) := by
    show (if b ≠ 0 then some (PyData.int (a.fmod b)) else none) = _
    rw [if_pos (by omega), Int.fmod_eq_emod_of_nonneg _ (by omega)]
  rw [e]
  simp only [Option.bind_some, Bool.false_eq_true, if_false]
theorem e_div (a b : Int) (h : 0 < b) (h2 : b < 1073741824) : opR .fdiv false [PyData.int a, .int b] = some (.int (a / b)) := by
  unfold opR
  have e : opF .fdiv [PyData.int a, .int b] = some (.int (a / b)) := by
    show (if b ≠ 0 ∧ b.natAbs < 1073741824 then some (PyData.int (a.fdiv b)) else none) = _
    rw [if_pos ⟨by omega, by omega⟩, Int.fdiv_eq_ediv_of_nonneg _ (by omega)]
  rw [e]
  simp only [Option.bind_some, Bool.false_eq_true, if_false]
theorem e_pow (a : Int) (b : Nat) (h : a.natAbs < 2 ^ 64) (hb : b ≤ 1000) : opR .pow false [PyData.int a, .int b] = some (.int (a ^ b)) := by
  unfold opR
  have e : opF .pow [PyData.int a, .int b] = some (.int (a ^ b)) := by
    show (if 0 ≤ (b : Int) ∧ (b : Int) ≤ 1000000 ∧ a.natAbs < 2 ^ 64 then some (PyData.int (a ^ (b : Int).toNat)) else none) = _
    rw [if_pos ⟨by omega, by omega, h⟩, Int.toNat_natCast]
  rw [e]
  simp only [Option.bind_some, Bool.false_eq_true, if_false]
theorem e_ixL (l : List Int) (j : Nat) (h : j < l.length) : opR .idx false [PyData.list (iL l), .int j] = some (.int l[j]) := by
  show (atD (iL l) (j : Int)).bind _ = _
  have e : atD (iL l) (j : Int) = some (.int l[j]) := by
    unfold atD ixD
    rw [if_pos (by omega), if_pos (by simp; omega), Option.bind_some, Int.toNat_natCast, List.getElem?_map, List.getElem?_eq_getElem h]
    rfl
  rw [e]
  rfl
structure Gp (c : Int) (p : D) : Prop where
  ex : ∃ (cells : List Int) (j : Nat) (dg ct fd : Int), p = P cells j dg ct fd ∧ j ≤ cells.length ∧ 0 ≤ dg ∧ 0 ≤ ct ∧ ct ≤ c ∧ 0 ≤ fd ∧ fd < 2147483269
def bT : S := (.seq (.ite (.op .gt false (.cons (.op .idx false (.cons (.pk 0) (.cons (.str "digits") .nil))) (.cons (.int 0) .nil)))
        (.seq (.set 3 (.op .mod false (.cons (.op .int false (.cons (.op .idx false (.cons (.pk 0) (.cons (.str "digits") .nil))) .nil)) (.cons (.pk 1) .nil))))
        (.seq (.put .set 0 (.str "digits") (.op .fdiv false (.cons (.op .idx false (.cons (.pk 0) (.cons (.str "digits") .nil))) (.cons (.pk 1) .nil))))
        (.seq (.ret (.var 3)) .skip))) .skip)
        (.seq (.set 4 (.op .add false (.cons (.op .add false (.cons (.op .idx false (.cons (.pk 0) (.cons (.str "fold") .nil))) (.cons (.op .mul false (.cons (.op .idx false (.cons (.pk 0) (.cons (.str "count") .nil))) (.cons (.int 9871) .nil))) .nil))) (.cons (.int 73) .nil))))
        (.seq (.ret (.op .mod false (.cons (.op .fdiv false (.cons (.op .int false (.cons (.op .mod false (.cons (.op .pow false (.cons (.pk 4) (.cons (.int 19) .nil))) (.cons (.int 2305843009213693951) .nil))) .nil)) (.cons (.int 256) .nil))) (.cons (.pk 1) .nil)))) .skip)))
theorem f_tail {V : Ev} {c many : Int} {cells : List Int} {j : Nat} {dg ct fd : Int} {o2 o3 o4 : Option D} (hc : c ≤ 1000000) (h1 : 0 < many) (h2 : many ≤ 1000) (b1 : 0 ≤ dg) (b2 : 0 ≤ ct) (b3 : ct ≤ c) (b4 : 0 ≤ fd) (b5 : fd < 2147483269) (b6 : j ≤ cells.length) : ∃ (r : Int) (p' : D), endF [0] (evS V bT [some (P cells j dg ct fd), some (.int many), o2, o3, o4]) = .ret (.int r) [p'] ∧ 0 ≤ r ∧ r < many ∧ Gp c p' := by
  unfold bT
  by_cases hd : 0 < dg
  · refine ⟨dg % many, P cells j (dg / many) ct fd, ?_, Int.emod_nonneg _ (by omega), Int.emod_lt_of_pos _ h1, ⟨cells, j, dg / many, ct, fd, rfl, b6, Int.ediv_nonneg b1 (by omega), b2, b3, b4, b5⟩⟩
    simp only [evS_seq, evS_skip, evS_frz, evS_set, evS_exp, evS_ret, evS_ite, evS_par, evS_putS, evS_putA, evS_for, evT_op, evT_call, evT_var, evT_bl, evT_and, evT_or, evT_not, evE_var, evE_non, evE_bl, evE_int, evE_str, evE_op, evE_and, evE_or, evE_not, evE_ite, evE_tup, evE_lst, fin0, fin1, fin2, fin3, evE_dsp, evE_call, evE_mut, evE_lc, evE_lc2, evE_dc, evL_nil, evL_pk, evL_lnt, evL_var, evL_non, evL_bl, evL_int, evL_str, evL_op, evL_tup, evL_lst, evL_call, evL_lc, evL_lc2, evL_dc, evL_ite, evL_and, evL_or, evL_not, bind_ok, ofE_ok, ofO_some, next_nx, next_ret, rdS_0, rdS_s, Option.isSome_some, if_true, Bool.false_eq_true, if_false, lnts, callO, back, endF, readAll, Option.map_some, Option.bind_some, List.set_cons_zero, List.set_cons_succ, asgT, Dt.truthy, g_digits, e_gt, hd, decide_true, e_int, e_mod _ _ h1, e_div _ _ h1 (by omega), mutO, s_digits]
  · have hd' : decide (0 < dg) = false := decide_eq_false hd
    have hb : (fd + ct * 9871 + 73).natAbs < 2 ^ 64 := by omega
    refine ⟨(fd + ct * 9871 + 73) ^ 19 % 2305843009213693951 / 256 % many, P cells j dg ct fd, ?_, Int.emod_nonneg _ (by omega), Int.emod_lt_of_pos _ h1, ⟨cells, j, dg, ct, fd, rfl, b6, b1, b2, b3, b4, b5⟩⟩
    have ep : opR .pow false [PyData.int (fd + ct * 9871 + 73), .int 19] = some (.int ((fd + ct * 9871 + 73) ^ 19)) := e_pow _ 19 hb (by decide)
    simp only [evS_seq, evS_skip, evS_frz, evS_set, evS_exp, evS_ret, evS_ite, evS_par, evS_putS, evS_putA, evS_for, evT_op, evT_call, evT_var, evT_bl, evT_and, evT_or, evT_not, evE_var, evE_non, evE_bl, evE_int, evE_str, evE_op, evE_and, evE_or, evE_not, evE_ite, evE_tup, evE_lst, fin0, fin1, fin2, fin3, evE_dsp, evE_call, evE_mut, evE_lc, evE_lc2, evE_dc, evL_nil, evL_pk, evL_lnt, evL_var, evL_non, evL_bl, evL_int, evL_str, evL_op, evL_tup, evL_lst, evL_call, evL_lc, evL_lc2, evL_dc, evL_ite, evL_and, evL_or, evL_not, bind_ok, ofE_ok, ofO_some, next_nx, next_ret, rdS_0, rdS_s, Option.isSome_some, if_true, Bool.false_eq_true, if_false, lnts, callO, back, endF, readAll, Option.map_some, Option.bind_some, List.set_cons_zero, List.set_cons_succ, asgT, Dt.truthy, g_digits, e_gt, hd', g_fold, g_count, e_add, e_mul _ _ (by decide : -(2 ^ 64) < (9871 : Int) ∧ (9871 : Int) < 2 ^ 64), ep, e_mod _ 2305843009213693951 (by decide), e_int, e_div _ 256 (by decide) (by decide), e_mod _ _ h1]
theorem f_draw (k : Nat) {p : D} {c many : Int} (g : Gp c p) (hc : c + 1 ≤ 1000000) (h1 : 0 < many) (h2 : many ≤ 1000) : ∃ (r : Int) (p' : D), Dt.run P0 12 (k + 1) 16 [p, .int many] = .ret (.int r) [p'] ∧ 0 ≤ r ∧ r < many ∧ Gp (c + 1) p' := by
  obtain ⟨cells, j, dg, ct, fd, rfl, a1, a2, a3, a4, a5, a6⟩ := g.ex
  have p18 : opR .pow false [PyData.int 10, .int 18] = some (.int 1000000000000000000) := e_pow 10 18 (by decide) (by decide)
  rw [run__law_draw]
  generalize Ev.mk (Dt.run P0 12 k) 12 P0.sub = V
  show ∃ r p', endF [0] (evS V (S.seq _ (S.seq _ bT)) _) = _ ∧ _
  rw [evS_seq]
  simp only [evS_seq, evS_skip, evS_frz, evS_set, evS_exp, evS_ret, evS_ite, evS_par, evS_putS, evS_putA, evS_for, evT_op, evT_call, evT_var, evT_bl, evT_and, evT_or, evT_not, evE_var, evE_non, evE_bl, evE_int, evE_str, evE_op, evE_and, evE_or, evE_not, evE_ite, evE_tup, evE_lst, fin0, fin1, fin2, fin3, evE_dsp, evE_call, evE_mut, evE_lc, evE_lc2, evE_dc, evL_nil, evL_pk, evL_lnt, evL_var, evL_non, evL_bl, evL_int, evL_str, evL_op, evL_tup, evL_lst, evL_call, evL_lc, evL_lc2, evL_dc, evL_ite, evL_and, evL_or, evL_not, bind_ok, ofE_ok, ofO_some, next_nx, next_ret, rdS_0, rdS_s, Option.isSome_some, if_true, Bool.false_eq_true, if_false, lnts, callO, back, endF, readAll, Option.map_some, Option.bind_some, List.set_cons_zero, List.set_cons_succ, asgT, Dt.truthy, g_count, e_add, mutO, s_count]
  by_cases hq : dg = 0
  · subst hq
    by_cases hl : j < cells.length
    · have hl' : (decide ((j : Int) < (cells.length : Int))) = true := decide_eq_true (by omega)
      by_cases hx : (1000000000000000000 : Int) ≤ cells[j]
      · have T := @f_tail V (c + 1) many cells (j + 1) (cells[j] - 1000000000000000000) (ct + 1) fd (some (.int cells[j])) none none hc h1 h2 (by omega) (by omega) (by omega) a5 a6 (by omega)
        rw [Int.natCast_add, Int.natCast_one] at T
        simp only [evS_seq, evS_skip, evS_frz, evS_set, evS_exp, evS_ret, evS_ite, evS_par, evS_putS, evS_putA, evS_for, evT_op, evT_call, evT_var, evT_bl, evT_and, evT_or, evT_not, evE_var, evE_non, evE_bl, evE_int, evE_str, evE_op, evE_and, evE_or, evE_not, evE_ite, evE_tup, evE_lst, fin0, fin1, fin2, fin3, evE_dsp, evE_call, evE_mut, evE_lc, evE_lc2, evE_dc, evL_nil, evL_pk, evL_lnt, evL_var, evL_non, evL_bl, evL_int, evL_str, evL_op, evL_tup, evL_lst, evL_call, evL_lc, evL_lc2, evL_dc, evL_ite, evL_and, evL_or, evL_not, bind_ok, ofE_ok, ofO_some, next_nx, next_ret, rdS_0, rdS_s, Option.isSome_some, if_true, Bool.false_eq_true, if_false, lnts, callO, back, endF, readAll, Option.map_some, Option.bind_some, List.set_cons_zero, List.set_cons_succ, asgT, Dt.truthy, g_digits, g_at, g_cells, e_eqi, e_lt, e_lenL, decide_true, hl', e_ixL _ _ hl, e_add, e_ge, p18, hx, e_sub, mutO, s_at, s_digits]
        exact T
      · have hx' : (decide ((1000000000000000000 : Int) ≤ cells[j])) = false := decide_eq_false hx
        have T := @f_tail V (c + 1) many cells (j + 1) 0 (ct + 1) ((fd * 70489 + cells[j]) % 2147483269) (some (.int cells[j])) none none hc h1 h2 (by omega) (by omega) (by omega) (Int.emod_nonneg _ (by decide)) (Int.emod_lt_of_pos _ (by decide)) (by omega)
        rw [Int.natCast_add, Int.natCast_one] at T
        simp only [evS_seq, evS_skip, evS_frz, evS_set, evS_exp, evS_ret, evS_ite, evS_par, evS_putS, evS_putA, evS_for, evT_op, evT_call, evT_var, evT_bl, evT_and, evT_or, evT_not, evE_var, evE_non, evE_bl, evE_int, evE_str, evE_op, evE_and, evE_or, evE_not, evE_ite, evE_tup, evE_lst, fin0, fin1, fin2, fin3, evE_dsp, evE_call, evE_mut, evE_lc, evE_lc2, evE_dc, evL_nil, evL_pk, evL_lnt, evL_var, evL_non, evL_bl, evL_int, evL_str, evL_op, evL_tup, evL_lst, evL_call, evL_lc, evL_lc2, evL_dc, evL_ite, evL_and, evL_or, evL_not, bind_ok, ofE_ok, ofO_some, next_nx, next_ret, rdS_0, rdS_s, Option.isSome_some, if_true, Bool.false_eq_true, if_false, lnts, callO, back, endF, readAll, Option.map_some, Option.bind_some, List.set_cons_zero, List.set_cons_succ, asgT, Dt.truthy, g_digits, g_at, g_cells, g_fold, e_eqi, e_lt, e_lenL, decide_true, hl', e_ixL _ _ hl, e_add, e_ge, p18, hx', e_mul _ _ (by decide : -(2 ^ 64) < (70489 : Int) ∧ (70489 : Int) < 2 ^ 64), e_int, e_mod _ 2147483269 (by decide), mutO, s_at, s_fold]
        exact T
    · have hl' : (decide ((j : Int) < (cells.length : Int))) = false := decide_eq_false (by omega)
      have T := @f_tail V (c + 1) many cells j 0 (ct + 1) fd none none none hc h1 h2 (by omega) (by omega) (by omega) a5 a6 (by omega)
      simp only [evS_seq, evS_skip, evS_frz, evS_set, evS_exp, evS_ret, evS_ite, evS_par, evS_putS, evS_putA, evS_for, evT_op, evT_call, evT_var, evT_bl, evT_and, evT_or, evT_not, evE_var, evE_non, evE_bl, evE_int, evE_str, evE_op, evE_and, evE_or, evE_not, evE_ite, evE_tup, evE_lst, fin0, fin1, fin2, fin3, evE_dsp, evE_call, evE_mut, evE_lc, evE_lc2, evE_dc, evL_nil, evL_pk, evL_lnt, evL_var, evL_non, evL_bl, evL_int, evL_str, evL_op, evL_tup, evL_lst, evL_call, evL_lc, evL_lc2, evL_dc, evL_ite, evL_and, evL_or, evL_not, bind_ok, ofE_ok, ofO_some, next_nx, next_ret, rdS_0, rdS_s, Option.isSome_some, if_true, Bool.false_eq_true, if_false, lnts, callO, back, endF, readAll, Option.map_some, Option.bind_some, List.set_cons_zero, List.set_cons_succ, asgT, Dt.truthy, g_digits, g_at, g_cells, e_eqi, e_lt, e_lenL, decide_true, hl']
      exact T
  · have hq' : decide (dg = 0) = false := decide_eq_false hq
    have T := @f_tail V (c + 1) many cells j dg (ct + 1) fd none none none hc h1 h2 (by omega) (by omega) (by omega) a5 a6 (by omega)
    simp only [evS_seq, evS_skip, evS_frz, evS_set, evS_exp, evS_ret, evS_ite, evS_par, evS_putS, evS_putA, evS_for, evT_op, evT_call, evT_var, evT_bl, evT_and, evT_or, evT_not, evE_var, evE_non, evE_bl, evE_int, evE_str, evE_op, evE_and, evE_or, evE_not, evE_ite, evE_tup, evE_lst, fin0, fin1, fin2, fin3, evE_dsp, evE_call, evE_mut, evE_lc, evE_lc2, evE_dc, evL_nil, evL_pk, evL_lnt, evL_var, evL_non, evL_bl, evL_int, evL_str, evL_op, evL_tup, evL_lst, evL_call, evL_lc, evL_lc2, evL_dc, evL_ite, evL_and, evL_or, evL_not, bind_ok, ofE_ok, ofO_some, next_nx, next_ret, rdS_0, rdS_s, Option.isSome_some, if_true, Bool.false_eq_true, if_false, lnts, callO, back, endF, readAll, Option.map_some, Option.bind_some, List.set_cons_zero, List.set_cons_succ, asgT, Dt.truthy, g_digits, e_eqi, hq']
    exact T
theorem e_list (ds : List D) : opR .list false [PyData.list ds] = some (.list ds) := rfl
theorem f_pen (k : Nat) (ns : List Int) (hl : ns.length ≤ 1000) : ∃ p, Dt.run P0 12 (k + 1) 15 [.list (iL ns)] = .ret p [] ∧ Gp 0 p := by
  have loop := for_inv (f := forF ⟨Dt.run P0 12 k, 12, P0.sub⟩ (.v 2) (.seq (.set 1 (.op .mod false (.cons (.op .int false (.cons (.op .add false (.cons (.op .mul false (.cons (.pk 1) (.cons (.int 89) .nil))) (.cons (.pk 2) .nil))) .nil)) (.cons (.int 1000000349) .nil)))) .skip)) (items := iL ns) (σ := [some (.list (iL ns)), some (.int 53), none])
    (fun rest σ => ∃ (rs : List Int) (fd : Int) (o : Option D), rest = iL rs ∧ σ = [some (.list (iL ns)), some (.int fd), o] ∧ 0 ≤ fd ∧ fd < 1000000349)
    ⟨ns, 53, none, rfl, rfl, by decide, by decide⟩ (by
      rintro d rest σ _ ⟨rs, fd, o, e1, rfl, e3, e4⟩
      cases rs with
      | nil => cases e1
      | cons x rs =>
        cases e1
        refine ⟨[some (.list (iL ns)), some (.int ((fd * 89 + x) % 1000000349)), some (.int x)], .inl ?_, rs, _, _, rfl, rfl, Int.emod_nonneg _ (by decide), Int.emod_lt_of_pos _ (by decide)⟩
        unfold forF
        simp only [evS_seq, evS_skip, evS_frz, evS_set, evS_exp, evS_ret, evS_ite, evS_par, evS_putS, evS_putA, evS_for, evT_op, evT_call, evT_var, evT_bl, evT_and, evT_or, evT_not, evE_var, evE_non, evE_bl, evE_int, evE_str, evE_op, evE_and, evE_or, evE_not, evE_ite, evE_tup, evE_lst, fin0, fin1, fin2, fin3, evE_dsp, evE_call, evE_mut, evE_lc, evE_lc2, evE_dc, evL_nil, evL_pk, evL_lnt, evL_var, evL_non, evL_bl, evL_int, evL_str, evL_op, evL_tup, evL_lst, evL_call, evL_lc, evL_lc2, evL_dc, evL_ite, evL_and, evL_or, evL_not, bind_ok, ofE_ok, ofO_some, next_nx, next_ret, rdS_0, rdS_s, Option.isSome_some, if_true, Bool.false_eq_true, if_false, lnts, callO, back, endF, readAll, Option.map_some, Option.bind_some, List.set_cons_zero, List.set_cons_succ, asgT, Dt.truthy, e_mul _ _ (by decide : -(2 ^ 64) < (89 : Int) ∧ (89 : Int) < 2 ^ 64), e_add, e_int, e_mod _ 1000000349 (by decide)])
  obtain ⟨σ', q1, rs, fd, o, er, rfl, q3, q4⟩ := loop
  refine ⟨P ns 0 0 0 fd, ?_, ns, 0, 0, 0, fd, rfl, by omega, by decide, by decide, by decide, q3, by omega⟩
  rw [run__law_pen]
  unfold b__law_pen
  simp only [evS_seq, evS_skip, evS_frz, evS_set, evS_exp, evS_ret, evS_ite, evS_par, evS_putS, evS_putA, evS_for, evT_op, evT_call, evT_var, evT_bl, evT_and, evT_or, evT_not, evE_var, evE_non, evE_bl, evE_int, evE_str, evE_op, evE_and, evE_or, evE_not, evE_ite, evE_tup, evE_lst, fin0, fin1, fin2, fin3, evE_dsp, evE_call, evE_mut, evE_lc, evE_lc2, evE_dc, evL_nil, evL_pk, evL_lnt, evL_var, evL_non, evL_bl, evL_int, evL_str, evL_op, evL_tup, evL_lst, evL_call, evL_lc, evL_lc2, evL_dc, evL_ite, evL_and, evL_or, evL_not, bind_ok, ofE_ok, ofO_some, next_nx, next_ret, rdS_0, rdS_s, Option.isSome_some, if_true, Bool.false_eq_true, if_false, lnts, callO, back, endF, readAll, Option.map_some, Option.bind_some, List.set_cons_zero, List.set_cons_succ, asgT, Dt.truthy, items1, itemsF, Dt.listOf]
  rw [q1]
  simp only [evS_seq, evS_skip, evS_frz, evS_set, evS_exp, evS_ret, evS_ite, evS_par, evS_putS, evS_putA, evS_for, evT_op, evT_call, evT_var, evT_bl, evT_and, evT_or, evT_not, evE_var, evE_non, evE_bl, evE_int, evE_str, evE_op, evE_and, evE_or, evE_not, evE_ite, evE_tup, evE_lst, fin0, fin1, fin2, fin3, evE_dsp, evE_call, evE_mut, evE_lc, evE_lc2, evE_dc, evL_nil, evL_pk, evL_lnt, evL_var, evL_non, evL_bl, evL_int, evL_str, evL_op, evL_tup, evL_lst, evL_call, evL_lc, evL_lc2, evL_dc, evL_ite, evL_and, evL_or, evL_not, bind_ok, ofE_ok, ofO_some, next_nx, next_ret, rdS_0, rdS_s, Option.isSome_some, if_true, Bool.false_eq_true, if_false, lnts, callO, back, endF, readAll, Option.map_some, Option.bind_some, List.set_cons_zero, List.set_cons_succ, asgT, Dt.truthy, e_list]
  rfl
theorem Gp.mono {c c' : Int} {p : D} (g : Gp c p) (h : c ≤ c') : Gp c' p := by
  obtain ⟨cells, j, dg, ct, fd, e, a1, a2, a3, a4, a5, a6⟩ := g.ex
  exact ⟨cells, j, dg, ct, fd, e, a1, a2, a3, by omega, a5, a6⟩
end K14
end
section
set_option Elab.async false
set_option linter.all false
set_option maxRecDepth 100000
set_option maxHeartbeats 4000000
namespace K14
open PySem Dt
def wholeB : D → Bool
  | .int _ => true
  | _ => false
def countB : D → Bool
  | .int i => decide (0 ≤ i)
  | _ => false
def placeB (n : Int) : D → Bool
  | .int i => decide (0 ≤ i) && decide (i < n)
  | _ => false
theorem f0 (k : Nat) (d : D) : Dt.run P0 12 (k + 1) 0 [d] = .ret (.bool (wholeB d)) [] := by
  rw [run_is_whole]
  unfold b_is_whole
  cases d <;> simp only [evS_seq, evS_skip, evS_frz, evS_set, evS_exp, evS_ret, evS_ite, evS_par, evS_putS, evS_putA, evS_for, evT_op, evT_call, evT_var, evT_bl, evT_and, evT_or, evT_not, evE_var, evE_non, evE_bl, evE_int, evE_str, evE_op, evE_and, evE_or, evE_not, evE_ite, evE_tup, evE_lst, fin0, fin1, fin2, fin3, evE_dsp, evE_call, evE_mut, evE_lc, evE_lc2, evE_dc, evL_nil, evL_pk, evL_lnt, evL_var, evL_non, evL_bl, evL_int, evL_str, evL_op, evL_tup, evL_lst, evL_call, evL_lc, evL_lc2, evL_dc, evL_ite, evL_and, evL_or, evL_not, bind_ok, ofE_ok, ofO_some, next_nx, next_ret, rdS_0, rdS_s, Option.isSome_some, if_true, Bool.false_eq_true, if_false, lnts, callO, back, endF, readAll, Option.map_some, Option.bind_some, List.set_cons_zero, List.set_cons_succ, asgT, Dt.truthy, oF_add, oF_sub, oF_neg, oF_eq, oF_ne, oF_lt, oF_gt, oF_le, oF_ge, oF_in, oF_nin, oF_isN, oF_notN, oF_idx, oF_slice, oF_sliceL, oF_sliceH, oF_rev, oF_len, oF_int, oF_min2, oF_max2, oF_list, oF_tuple, oF_sorted, oF_all, oF_any, oF_isInt, oF_isBool, oF_isTuple, oF_isList, oF_isStr, oF_range1, oF_range2, oF_count, oF_index, oF_index3, opR_f, dB_s, fAdd_ii, fSub_ii, fNeg_i, fLen_L, fLen_T, fLen_D, fInt_i, dLt_ii, dGt_ii, dLe_ii, fIdx_L, fIdx_T, fRev_L, fRev_T, fList_L, fList_T, fTuple_L, fTuple_T, fMin2_ii, fMax2_ii, fSlH_T, fSlL_T, fSlH_L, fSlL_L, at_0, at_1, dEq_ii, dEq_bb, dEq_tw, dIn_tw, dIn_iT, dIn_iL, evE_chn, evE_meth, chnO_t, chnO_f, evL_meth, evL_mut, evL_chn, evS_unp, evS_fgt, isIntD, isBoolD, isTupleD, isListD, isSeqD, Bool.not_true, Bool.not_false, items1, itemsF, Dt.listOf, decide_true, decide_false, wholeB]
theorem f1 (k : Nat) (d : D) : Dt.run P0 12 (k + 2) 1 [d] = .ret (.bool (countB d)) [] := by
  rw [run_is_count]
  unfold b_is_count
  cases d <;> simp only [evS_seq, evS_skip, evS_frz, evS_set, evS_exp, evS_ret, evS_ite, evS_par, evS_putS, evS_putA, evS_for, evT_op, evT_call, evT_var, evT_bl, evT_and, evT_or, evT_not, evE_var, evE_non, evE_bl, evE_int, evE_str, evE_op, evE_and, evE_or, evE_not, evE_ite, evE_tup, evE_lst, fin0, fin1, fin2, fin3, evE_dsp, evE_call, evE_mut, evE_lc, evE_lc2, evE_dc, evL_nil, evL_pk, evL_lnt, evL_var, evL_non, evL_bl, evL_int, evL_str, evL_op, evL_tup, evL_lst, evL_call, evL_lc, evL_lc2, evL_dc, evL_ite, evL_and, evL_or, evL_not, bind_ok, ofE_ok, ofO_some, next_nx, next_ret, rdS_0, rdS_s, Option.isSome_some, if_true, Bool.false_eq_true, if_false, lnts, callO, back, endF, readAll, Option.map_some, Option.bind_some, List.set_cons_zero, List.set_cons_succ, asgT, Dt.truthy, oF_add, oF_sub, oF_neg, oF_eq, oF_ne, oF_lt, oF_gt, oF_le, oF_ge, oF_in, oF_nin, oF_isN, oF_notN, oF_idx, oF_slice, oF_sliceL, oF_sliceH, oF_rev, oF_len, oF_int, oF_min2, oF_max2, oF_list, oF_tuple, oF_sorted, oF_all, oF_any, oF_isInt, oF_isBool, oF_isTuple, oF_isList, oF_isStr, oF_range1, oF_range2, oF_count, oF_index, oF_index3, opR_f, dB_s, fAdd_ii, fSub_ii, fNeg_i, fLen_L, fLen_T, fLen_D, fInt_i, dLt_ii, dGt_ii, dLe_ii, fIdx_L, fIdx_T, fRev_L, fRev_T, fList_L, fList_T, fTuple_L, fTuple_T, fMin2_ii, fMax2_ii, fSlH_T, fSlL_T, fSlH_L, fSlL_L, at_0, at_1, dEq_ii, dEq_bb, dEq_tw, dIn_tw, dIn_iT, dIn_iL, evE_chn, evE_meth, chnO_t, chnO_f, evL_meth, evL_mut, evL_chn, evS_unp, evS_fgt, isIntD, isBoolD, isTupleD, isListD, isSeqD, Bool.not_true, Bool.not_false, items1, itemsF, Dt.listOf, decide_true, decide_false, f0, wholeB, countB]
theorem f2 (k : Nat) (n : Int) (d : D) : Dt.run P0 12 (k + 3) 2 [.int n, d] = .ret (.bool (placeB n d)) [] := by
  rw [run_is_place]
  unfold b_is_place
  cases d with
  | int i =>
    by_cases h : 0 ≤ i
    · simp only [evS_seq, evS_skip, evS_frz, evS_set, evS_exp, evS_ret, evS_ite, evS_par, evS_putS, evS_putA, evS_for, evT_op, evT_call, evT_var, evT_bl, evT_and, evT_or, evT_not, evE_var, evE_non, evE_bl, evE_int, evE_str, evE_op, evE_and, evE_or, evE_not, evE_ite, evE_tup, evE_lst, fin0, fin1, fin2, fin3, evE_dsp, evE_call, evE_mut, evE_lc, evE_lc2, evE_dc, evL_nil, evL_pk, evL_lnt, evL_var, evL_non, evL_bl, evL_int, evL_str, evL_op, evL_tup, evL_lst, evL_call, evL_lc, evL_lc2, evL_dc, evL_ite, evL_and, evL_or, evL_not, bind_ok, ofE_ok, ofO_some, next_nx, next_ret, rdS_0, rdS_s, Option.isSome_some, if_true, Bool.false_eq_true, if_false, lnts, callO, back, endF, readAll, Option.map_some, Option.bind_some, List.set_cons_zero, List.set_cons_succ, asgT, Dt.truthy, oF_add, oF_sub, oF_neg, oF_eq, oF_ne, oF_lt, oF_gt, oF_le, oF_ge, oF_in, oF_nin, oF_isN, oF_notN, oF_idx, oF_slice, oF_sliceL, oF_sliceH, oF_rev, oF_len, oF_int, oF_min2, oF_max2, oF_list, oF_tuple, oF_sorted, oF_all, oF_any, oF_isInt, oF_isBool, oF_isTuple, oF_isList, oF_isStr, oF_range1, oF_range2, oF_count, oF_index, oF_index3, opR_f, dB_s, fAdd_ii, fSub_ii, fNeg_i, fLen_L, fLen_T, fLen_D, fInt_i, dLt_ii, dGt_ii, dLe_ii, fIdx_L, fIdx_T, fRev_L, fRev_T, fList_L, fList_T, fTuple_L, fTuple_T, fMin2_ii, fMax2_ii, fSlH_T, fSlL_T, fSlH_L, fSlL_L, at_0, at_1, dEq_ii, dEq_bb, dEq_tw, dIn_tw, dIn_iT, dIn_iL, evE_chn, evE_meth, chnO_t, chnO_f, evL_meth, evL_mut, evL_chn, evS_unp, evS_fgt, isIntD, isBoolD, isTupleD, isListD, isSeqD, Bool.not_true, Bool.not_false, items1, itemsF, Dt.listOf, decide_true, decide_false, f1, countB, placeB, h, Bool.true_and]
    · have h' : decide (0 ≤ i) = false := decide_eq_false h
      simp only [evS_seq, evS_skip, evS_frz, evS_set, evS_exp, evS_ret, evS_ite, evS_par, evS_putS, evS_putA, evS_for, evT_op, evT_call, evT_var, evT_bl, evT_and, evT_or, evT_not, evE_var, evE_non, evE_bl, evE_int, evE_str, evE_op, evE_and, evE_or, evE_not, evE_ite, evE_tup, evE_lst, fin0, fin1, fin2, fin3, evE_dsp, evE_call, evE_mut, evE_lc, evE_lc2, evE_dc, evL_nil, evL_pk, evL_lnt, evL_var, evL_non, evL_bl, evL_int, evL_str, evL_op, evL_tup, evL_lst, evL_call, evL_lc, evL_lc2, evL_dc, evL_ite, evL_and, evL_or, evL_not, bind_ok, ofE_ok, ofO_some, next_nx, next_ret, rdS_0, rdS_s, Option.isSome_some, if_true, Bool.false_eq_true, if_false, lnts, callO, back, endF, readAll, Option.map_some, Option.bind_some, List.set_cons_zero, List.set_cons_succ, asgT, Dt.truthy, oF_add, oF_sub, oF_neg, oF_eq, oF_ne, oF_lt, oF_gt, oF_le, oF_ge, oF_in, oF_nin, oF_isN, oF_notN, oF_idx, oF_slice, oF_sliceL, oF_sliceH, oF_rev, oF_len, oF_int, oF_min2, oF_max2, oF_list, oF_tuple, oF_sorted, oF_all, oF_any, oF_isInt, oF_isBool, oF_isTuple, oF_isList, oF_isStr, oF_range1, oF_range2, oF_count, oF_index, oF_index3, opR_f, dB_s, fAdd_ii, fSub_ii, fNeg_i, fLen_L, fLen_T, fLen_D, fInt_i, dLt_ii, dGt_ii, dLe_ii, fIdx_L, fIdx_T, fRev_L, fRev_T, fList_L, fList_T, fTuple_L, fTuple_T, fMin2_ii, fMax2_ii, fSlH_T, fSlL_T, fSlH_L, fSlL_L, at_0, at_1, dEq_ii, dEq_bb, dEq_tw, dIn_tw, dIn_iT, dIn_iL, evE_chn, evE_meth, chnO_t, chnO_f, evL_meth, evL_mut, evL_chn, evS_unp, evS_fgt, isIntD, isBoolD, isTupleD, isListD, isSeqD, Bool.not_true, Bool.not_false, items1, itemsF, Dt.listOf, decide_true, decide_false, f1, countB, placeB, h', Bool.false_and]
  | _ => simp only [evS_seq, evS_skip, evS_frz, evS_set, evS_exp, evS_ret, evS_ite, evS_par, evS_putS, evS_putA, evS_for, evT_op, evT_call, evT_var, evT_bl, evT_and, evT_or, evT_not, evE_var, evE_non, evE_bl, evE_int, evE_str, evE_op, evE_and, evE_or, evE_not, evE_ite, evE_tup, evE_lst, fin0, fin1, fin2, fin3, evE_dsp, evE_call, evE_mut, evE_lc, evE_lc2, evE_dc, evL_nil, evL_pk, evL_lnt, evL_var, evL_non, evL_bl, evL_int, evL_str, evL_op, evL_tup, evL_lst, evL_call, evL_lc, evL_lc2, evL_dc, evL_ite, evL_and, evL_or, evL_not, bind_ok, ofE_ok, ofO_some, next_nx, next_ret, rdS_0, rdS_s, Option.isSome_some, if_true, Bool.false_eq_true, if_false, lnts, callO, back, endF, readAll, Option.map_some, Option.bind_some, List.set_cons_zero, List.set_cons_succ, asgT, Dt.truthy, oF_add, oF_sub, oF_neg, oF_eq, oF_ne, oF_lt, oF_gt, oF_le, oF_ge, oF_in, oF_nin, oF_isN, oF_notN, oF_idx, oF_slice, oF_sliceL, oF_sliceH, oF_rev, oF_len, oF_int, oF_min2, oF_max2, oF_list, oF_tuple, oF_sorted, oF_all, oF_any, oF_isInt, oF_isBool, oF_isTuple, oF_isList, oF_isStr, oF_range1, oF_range2, oF_count, oF_index, oF_index3, opR_f, dB_s, fAdd_ii, fSub_ii, fNeg_i, fLen_L, fLen_T, fLen_D, fInt_i, dLt_ii, dGt_ii, dLe_ii, fIdx_L, fIdx_T, fRev_L, fRev_T, fList_L, fList_T, fTuple_L, fTuple_T, fMin2_ii, fMax2_ii, fSlH_T, fSlL_T, fSlH_L, fSlL_L, at_0, at_1, dEq_ii, dEq_bb, dEq_tw, dIn_tw, dIn_iT, dIn_iL, evE_chn, evE_meth, chnO_t, chnO_f, evL_meth, evL_mut, evL_chn, evS_unp, evS_fgt, isIntD, isBoolD, isTupleD, isListD, isSeqD, Bool.not_true, Bool.not_false, items1, itemsF, Dt.listOf, decide_true, decide_false, f1, countB, placeB]
theorem f23 (k : Nat) (n : Int) (d : D) : Dt.run P0 12 (k + 1) 23 [.int n, d] = .ret (.bool (placeB n d)) [] := by
  rw [run__law_is_place]
  unfold b__law_is_place
  cases d with
  | int i =>
    by_cases h : 0 ≤ i
    · simp only [evS_seq, evS_skip, evS_frz, evS_set, evS_exp, evS_ret, evS_ite, evS_par, evS_putS, evS_putA, evS_for, evT_op, evT_call, evT_var, evT_bl, evT_and, evT_or, evT_not, evE_var, evE_non, evE_bl, evE_int, evE_str, evE_op, evE_and, evE_or, evE_not, evE_ite, evE_tup, evE_lst, fin0, fin1, fin2, fin3, evE_dsp, evE_call, evE_mut, evE_lc, evE_lc2, evE_dc, evL_nil, evL_pk, evL_lnt, evL_var, evL_non, evL_bl, evL_int, evL_str, evL_op, evL_tup, evL_lst, evL_call, evL_lc, evL_lc2, evL_dc, evL_ite, evL_and, evL_or, evL_not, bind_ok, ofE_ok, ofO_some, next_nx, next_ret, rdS_0, rdS_s, Option.isSome_some, if_true, Bool.false_eq_true, if_false, lnts, callO, back, endF, readAll, Option.map_some, Option.bind_some, List.set_cons_zero, List.set_cons_succ, asgT, Dt.truthy, oF_add, oF_sub, oF_neg, oF_eq, oF_ne, oF_lt, oF_gt, oF_le, oF_ge, oF_in, oF_nin, oF_isN, oF_notN, oF_idx, oF_slice, oF_sliceL, oF_sliceH, oF_rev, oF_len, oF_int, oF_min2, oF_max2, oF_list, oF_tuple, oF_sorted, oF_all, oF_any, oF_isInt, oF_isBool, oF_isTuple, oF_isList, oF_isStr, oF_range1, oF_range2, oF_count, oF_index, oF_index3, opR_f, dB_s, fAdd_ii, fSub_ii, fNeg_i, fLen_L, fLen_T, fLen_D, fInt_i, dLt_ii, dGt_ii, dLe_ii, fIdx_L, fIdx_T, fRev_L, fRev_T, fList_L, fList_T, fTuple_L, fTuple_T, fMin2_ii, fMax2_ii, fSlH_T, fSlL_T, fSlH_L, fSlL_L, at_0, at_1, dEq_ii, dEq_bb, dEq_tw, dIn_tw, dIn_iT, dIn_iL, evE_chn, evE_meth, chnO_t, chnO_f, evL_meth, evL_mut, evL_chn, evS_unp, evS_fgt, isIntD, isBoolD, isTupleD, isListD, isSeqD, Bool.not_true, Bool.not_false, items1, itemsF, Dt.listOf, decide_true, decide_false, placeB, h, Bool.true_and]
    · have h' : decide (0 ≤ i) = false := decide_eq_false h
      simp only [evS_seq, evS_skip, evS_frz, evS_set, evS_exp, evS_ret, evS_ite, evS_par, evS_putS, evS_putA, evS_for, evT_op, evT_call, evT_var, evT_bl, evT_and, evT_or, evT_not, evE_var, evE_non, evE_bl, evE_int, evE_str, evE_op, evE_and, evE_or, evE_not, evE_ite, evE_tup, evE_lst, fin0, fin1, fin2, fin3, evE_dsp, evE_call, evE_mut, evE_lc, evE_lc2, evE_dc, evL_nil, evL_pk, evL_lnt, evL_var, evL_non, evL_bl, evL_int, evL_str, evL_op, evL_tup, evL_lst, evL_call, evL_lc, evL_lc2, evL_dc, evL_ite, evL_and, evL_or, evL_not, bind_ok, ofE_ok, ofO_some, next_nx, next_ret, rdS_0, rdS_s, Option.isSome_some, if_true, Bool.false_eq_true, if_false, lnts, callO, back, endF, readAll, Option.map_some, Option.bind_some, List.set_cons_zero, List.set_cons_succ, asgT, Dt.truthy, oF_add, oF_sub, oF_neg, oF_eq, oF_ne, oF_lt, oF_gt, oF_le, oF_ge, oF_in, oF_nin, oF_isN, oF_notN, oF_idx, oF_slice, oF_sliceL, oF_sliceH, oF_rev, oF_len, oF_int, oF_min2, oF_max2, oF_list, oF_tuple, oF_sorted, oF_all, oF_any, oF_isInt, oF_isBool, oF_isTuple, oF_isList, oF_isStr, oF_range1, oF_range2, oF_count, oF_index, oF_index3, opR_f, dB_s, fAdd_ii, fSub_ii, fNeg_i, fLen_L, fLen_T, fLen_D, fInt_i, dLt_ii, dGt_ii, dLe_ii, fIdx_L, fIdx_T, fRev_L, fRev_T, fList_L, fList_T, fTuple_L, fTuple_T, fMin2_ii, fMax2_ii, fSlH_T, fSlL_T, fSlH_L, fSlL_L, at_0, at_1, dEq_ii, dEq_bb, dEq_tw, dIn_tw, dIn_iT, dIn_iL, evE_chn, evE_meth, chnO_t, chnO_f, evL_meth, evL_mut, evL_chn, evS_unp, evS_fgt, isIntD, isBoolD, isTupleD, isListD, isSeqD, Bool.not_true, Bool.not_false, items1, itemsF, Dt.listOf, decide_true, decide_false, placeB, h', Bool.false_and]
  | _ => simp only [evS_seq, evS_skip, evS_frz, evS_set, evS_exp, evS_ret, evS_ite, evS_par, evS_putS, evS_putA, evS_for, evT_op, evT_call, evT_var, evT_bl, evT_and, evT_or, evT_not, evE_var, evE_non, evE_bl, evE_int, evE_str, evE_op, evE_and, evE_or, evE_not, evE_ite, evE_tup, evE_lst, fin0, fin1, fin2, fin3, evE_dsp, evE_call, evE_mut, evE_lc, evE_lc2, evE_dc, evL_nil, evL_pk, evL_lnt, evL_var, evL_non, evL_bl, evL_int, evL_str, evL_op, evL_tup, evL_lst, evL_call, evL_lc, evL_lc2, evL_dc, evL_ite, evL_and, evL_or, evL_not, bind_ok, ofE_ok, ofO_some, next_nx, next_ret, rdS_0, rdS_s, Option.isSome_some, if_true, Bool.false_eq_true, if_false, lnts, callO, back, endF, readAll, Option.map_some, Option.bind_some, List.set_cons_zero, List.set_cons_succ, asgT, Dt.truthy, oF_add, oF_sub, oF_neg, oF_eq, oF_ne, oF_lt, oF_gt, oF_le, oF_ge, oF_in, oF_nin, oF_isN, oF_notN, oF_idx, oF_slice, oF_sliceL, oF_sliceH, oF_rev, oF_len, oF_int, oF_min2, oF_max2, oF_list, oF_tuple, oF_sorted, oF_all, oF_any, oF_isInt, oF_isBool, oF_isTuple, oF_isList, oF_isStr, oF_range1, oF_range2, oF_count, oF_index, oF_index3, opR_f, dB_s, fAdd_ii, fSub_ii, fNeg_i, fLen_L, fLen_T, fLen_D, fInt_i, dLt_ii, dGt_ii, dLe_ii, fIdx_L, fIdx_T, fRev_L, fRev_T, fList_L, fList_T, fTuple_L, fTuple_T, fMin2_ii, fMax2_ii, fSlH_T, fSlL_T, fSlH_L, fSlL_L, at_0, at_1, dEq_ii, dEq_bb, dEq_tw, dIn_tw, dIn_iT, dIn_iL, evE_chn, evE_meth, chnO_t, chnO_f, evL_meth, evL_mut, evL_chn, evS_unp, evS_fgt, isIntD, isBoolD, isTupleD, isListD, isSeqD, Bool.not_true, Bool.not_false, items1, itemsF, Dt.listOf, decide_true, decide_false, placeB]
def tie (a b : Int) : Int × Int := if a < b then (a, b) else (b, a)
theorem f6 (k : Nat) (a b : Int) : Dt.run P0 12 (k + 1) 6 [.int a, .int b] = .ret (tw (tie a b)) [] := by
  rw [run_as_tie]
  unfold b_as_tie tie
  by_cases h : a < b
  · simp only [evS_seq, evS_skip, evS_frz, evS_set, evS_exp, evS_ret, evS_ite, evS_par, evS_putS, evS_putA, evS_for, evT_op, evT_call, evT_var, evT_bl, evT_and, evT_or, evT_not, evE_var, evE_non, evE_bl, evE_int, evE_str, evE_op, evE_and, evE_or, evE_not, evE_ite, evE_tup, evE_lst, fin0, fin1, fin2, fin3, evE_dsp, evE_call, evE_mut, evE_lc, evE_lc2, evE_dc, evL_nil, evL_pk, evL_lnt, evL_var, evL_non, evL_bl, evL_int, evL_str, evL_op, evL_tup, evL_lst, evL_call, evL_lc, evL_lc2, evL_dc, evL_ite, evL_and, evL_or, evL_not, bind_ok, ofE_ok, ofO_some, next_nx, next_ret, rdS_0, rdS_s, Option.isSome_some, if_true, Bool.false_eq_true, if_false, lnts, callO, back, endF, readAll, Option.map_some, Option.bind_some, List.set_cons_zero, List.set_cons_succ, asgT, Dt.truthy, oF_add, oF_sub, oF_neg, oF_eq, oF_ne, oF_lt, oF_gt, oF_le, oF_ge, oF_in, oF_nin, oF_isN, oF_notN, oF_idx, oF_slice, oF_sliceL, oF_sliceH, oF_rev, oF_len, oF_int, oF_min2, oF_max2, oF_list, oF_tuple, oF_sorted, oF_all, oF_any, oF_isInt, oF_isBool, oF_isTuple, oF_isList, oF_isStr, oF_range1, oF_range2, oF_count, oF_index, oF_index3, opR_f, dB_s, fAdd_ii, fSub_ii, fNeg_i, fLen_L, fLen_T, fLen_D, fInt_i, dLt_ii, dGt_ii, dLe_ii, fIdx_L, fIdx_T, fRev_L, fRev_T, fList_L, fList_T, fTuple_L, fTuple_T, fMin2_ii, fMax2_ii, fSlH_T, fSlL_T, fSlH_L, fSlL_L, at_0, at_1, dEq_ii, dEq_bb, dEq_tw, dIn_tw, dIn_iT, dIn_iL, evE_chn, evE_meth, chnO_t, chnO_f, evL_meth, evL_mut, evL_chn, evS_unp, evS_fgt, isIntD, isBoolD, isTupleD, isListD, isSeqD, Bool.not_true, Bool.not_false, items1, itemsF, Dt.listOf, decide_true, decide_false, h, if_true]
  · have h' : decide (a < b) = false := decide_eq_false h
    simp only [evS_seq, evS_skip, evS_frz, evS_set, evS_exp, evS_ret, evS_ite, evS_par, evS_putS, evS_putA, evS_for, evT_op, evT_call, evT_var, evT_bl, evT_and, evT_or, evT_not, evE_var, evE_non, evE_bl, evE_int, evE_str, evE_op, evE_and, evE_or, evE_not, evE_ite, evE_tup, evE_lst, fin0, fin1, fin2, fin3, evE_dsp, evE_call, evE_mut, evE_lc, evE_lc2, evE_dc, evL_nil, evL_pk, evL_lnt, evL_var, evL_non, evL_bl, evL_int, evL_str, evL_op, evL_tup, evL_lst, evL_call, evL_lc, evL_lc2, evL_dc, evL_ite, evL_and, evL_or, evL_not, bind_ok, ofE_ok, ofO_some, next_nx, next_ret, rdS_0, rdS_s, Option.isSome_some, if_true, Bool.false_eq_true, if_false, lnts, callO, back, endF, readAll, Option.map_some, Option.bind_some, List.set_cons_zero, List.set_cons_succ, asgT, Dt.truthy, oF_add, oF_sub, oF_neg, oF_eq, oF_ne, oF_lt, oF_gt, oF_le, oF_ge, oF_in, oF_nin, oF_isN, oF_notN, oF_idx, oF_slice, oF_sliceL, oF_sliceH, oF_rev, oF_len, oF_int, oF_min2, oF_max2, oF_list, oF_tuple, oF_sorted, oF_all, oF_any, oF_isInt, oF_isBool, oF_isTuple, oF_isList, oF_isStr, oF_range1, oF_range2, oF_count, oF_index, oF_index3, opR_f, dB_s, fAdd_ii, fSub_ii, fNeg_i, fLen_L, fLen_T, fLen_D, fInt_i, dLt_ii, dGt_ii, dLe_ii, fIdx_L, fIdx_T, fRev_L, fRev_T, fList_L, fList_T, fTuple_L, fTuple_T, fMin2_ii, fMax2_ii, fSlH_T, fSlL_T, fSlH_L, fSlL_L, at_0, at_1, dEq_ii, dEq_bb, dEq_tw, dIn_tw, dIn_iT, dIn_iL, evE_chn, evE_meth, chnO_t, chnO_f, evL_meth, evL_mut, evL_chn, evS_unp, evS_fgt, isIntD, isBoolD, isTupleD, isListD, isSeqD, Bool.not_true, Bool.not_false, items1, itemsF, Dt.listOf, decide_true, decide_false, h', h, if_false]
theorem f22 (k : Nat) (n : Int) (ps : List (Int × Int)) (a b : Int) : Dt.run P0 12 (k + 1) 22 [.tuple [.int n, tws ps], .int a, .int b] = .ret (.bool (decide (tie a b ∈ ps))) [] := by
  rw [run__law_tied]
  unfold b__law_tied
  have e : tie a b = (if b < a then b else a, if b > a then b else a) := by
    unfold tie
    by_cases h : a < b
    · rw [if_pos h, if_neg (by omega), if_pos (by omega)]
    · rw [if_neg h]
      by_cases h2 : b < a
      · rw [if_pos h2, if_neg (by omega)]
      · rw [if_neg h2, if_neg (by omega)]
        have : a = b := by omega
        rw [this]
  simp only [evS_seq, evS_skip, evS_frz, evS_set, evS_exp, evS_ret, evS_ite, evS_par, evS_putS, evS_putA, evS_for, evT_op, evT_call, evT_var, evT_bl, evT_and, evT_or, evT_not, evE_var, evE_non, evE_bl, evE_int, evE_str, evE_op, evE_and, evE_or, evE_not, evE_ite, evE_tup, evE_lst, fin0, fin1, fin2, fin3, evE_dsp, evE_call, evE_mut, evE_lc, evE_lc2, evE_dc, evL_nil, evL_pk, evL_lnt, evL_var, evL_non, evL_bl, evL_int, evL_str, evL_op, evL_tup, evL_lst, evL_call, evL_lc, evL_lc2, evL_dc, evL_ite, evL_and, evL_or, evL_not, bind_ok, ofE_ok, ofO_some, next_nx, next_ret, rdS_0, rdS_s, Option.isSome_some, if_true, Bool.false_eq_true, if_false, lnts, callO, back, endF, readAll, Option.map_some, Option.bind_some, List.set_cons_zero, List.set_cons_succ, asgT, Dt.truthy, oF_add, oF_sub, oF_neg, oF_eq, oF_ne, oF_lt, oF_gt, oF_le, oF_ge, oF_in, oF_nin, oF_isN, oF_notN, oF_idx, oF_slice, oF_sliceL, oF_sliceH, oF_rev, oF_len, oF_int, oF_min2, oF_max2, oF_list, oF_tuple, oF_sorted, oF_all, oF_any, oF_isInt, oF_isBool, oF_isTuple, oF_isList, oF_isStr, oF_range1, oF_range2, oF_count, oF_index, oF_index3, opR_f, dB_s, fAdd_ii, fSub_ii, fNeg_i, fLen_L, fLen_T, fLen_D, fInt_i, dLt_ii, dGt_ii, dLe_ii, fIdx_L, fIdx_T, fRev_L, fRev_T, fList_L, fList_T, fTuple_L, fTuple_T, fMin2_ii, fMax2_ii, fSlH_T, fSlL_T, fSlH_L, fSlL_L, at_0, at_1, dEq_ii, dEq_bb, dEq_tw, dIn_tw, dIn_iT, dIn_iL, evE_chn, evE_meth, chnO_t, chnO_f, evL_meth, evL_mut, evL_chn, evS_unp, evS_fgt, isIntD, isBoolD, isTupleD, isListD, isSeqD, Bool.not_true, Bool.not_false, items1, itemsF, Dt.listOf, decide_true, decide_false, e]
/-- all of a function's answers -/
theorem all_f {w0 : Sl} {own : List Nat} {tg : Tg} {c : Sl → Out Bool} {e : Sl → Out D} {σ : Sl} (p : D → Bool) (xs : List D) (hw : wipeD σ own = w0) (hl : xs.length ≤ 10000)
    (k : ∀ d ∈ xs, ∃ σ1, asgT tg d w0 = some σ1 ∧ wipeD σ1 own = w0 ∧ c σ1 = .ok true σ1 ∧ e σ1 = .ok (.bool (p d)) σ1) :
    runG own .list (turnG own tg c (app1 e)) [] xs σ = .ok (.list (xs.map fun d => .bool (p d))) w0 := by
  have := run_pure (own := own) (tg := tg) (c := c) (e := e) (items := xs) (σ := σ) (w0 := w0) (fun _ => true) (fun d => .bool (p d)) hw (by rw [sl24]; omega) (fun d hd => by
    obtain ⟨σ1, a1, a2, a3, a4⟩ := k d hd
    exact ⟨σ1, a1, a2, a3, fun _ => a4⟩)
  rw [this, List.filter_eq_self.mpr fun _ _ => rfl]
end K14
end
section
set_option Elab.async false
set_option linter.all false
set_option maxRecDepth 100000
set_option maxHeartbeats 4000000
namespace K14
open PySem Dt
def toI : D → Int
  | .int i => i
  | _ => 0
theorem ints_of {n : Int} : ∀ {xs : List D}, xs.all (placeB n) = true → xs = iL (xs.map toI)
  | [], _ => rfl
  | d :: xs, h => by
    rw [List.all_cons, Bool.and_eq_true] at h
    have := ints_of h.2
    cases d with
    | int i =>
      show _ = PyData.int i :: iL (xs.map toI)
      rw [← this]
    | _ => cases h.1
def wayW (ds : List (Int × Int)) (w : List Int) : Bool := decide w.Nodup && (w.zip (w.drop 1)).all fun p => decide (p ∈ ds)
def wayB (n : Int) (ds : List (Int × Int)) (xs : List D) : Bool := decide (2 ≤ xs.length) && (xs.all (placeB n) && wayW ds (xs.map toI))
def pinB (ds : List (Int × Int)) : D → Bool
  | .tuple [.int a, .int b] => decide ((a, b) ∈ ds)
  | _ => false
theorem zip_iL (w v : List Int) : ((iL w).zip (iL v)).map (fun p => PyData.tuple [p.1, p.2]) = (w.zip v).map tw := by
  rw [List.zip_map, List.map_map]
  rfl
theorem f9n (k : Nat) (n p v : D) (h : isTupleD v = false) : Dt.run P0 12 (k + 1) 9 [n, p, v] = .ret (.bool false) [] := by
  rw [run_is_way_in]
  unfold b_is_way_in
  have e : opF .isTuple [v] = some (.bool false) := by rw [oF_isTuple, h]
  simp only [evS_seq, evS_ite, evT_or, evT_not, evT_op, evE_op, evL_pk, evL_nil, rdS_0, rdS_s, Option.isSome_some, if_true, bind_ok, ofO_some, opR_f, e, Dt.truthy, Bool.not_false, ofE_ok, evS_ret, evE_bl, next_ret, evS_skip, endF, readAll]
theorem f9 (k : Nat) (n : Int) (ds : List (Int × Int)) (xs : List D) (hl : xs.length ≤ 1000) : Dt.run P0 12 (k + 4) 9 [.int n, tws ds, .tuple xs] = .ret (.bool (wayB n ds xs)) [] := by
  rw [run_is_way_in]
  unfold b_is_way_in wayB
  by_cases h2 : 2 ≤ xs.length
  case neg =>
    have h2' : decide (2 ≤ xs.length) = false := decide_eq_false h2
    have h3 : decide ((xs.length : Int) < 2) = true := decide_eq_true (by omega)
    simp only [evS_seq, evS_skip, evS_frz, evS_set, evS_exp, evS_ret, evS_ite, evS_par, evS_putS, evS_putA, evS_for, evT_op, evT_call, evT_var, evT_bl, evT_and, evT_or, evT_not, evE_var, evE_non, evE_bl, evE_int, evE_str, evE_op, evE_and, evE_or, evE_not, evE_ite, evE_tup, evE_lst, fin0, fin1, fin2, fin3, evE_dsp, evE_call, evE_mut, evE_lc, evE_lc2, evE_dc, evL_nil, evL_pk, evL_lnt, evL_var, evL_non, evL_bl, evL_int, evL_str, evL_op, evL_tup, evL_lst, evL_call, evL_lc, evL_lc2, evL_dc, evL_ite, evL_and, evL_or, evL_not, bind_ok, ofE_ok, ofO_some, next_nx, next_ret, rdS_0, rdS_s, Option.isSome_some, if_true, Bool.false_eq_true, if_false, lnts, callO, back, endF, readAll, Option.map_some, Option.bind_some, List.set_cons_zero, List.set_cons_succ, asgT, Dt.truthy, oF_add, oF_sub, oF_neg, oF_eq, oF_ne, oF_lt, oF_gt, oF_le, oF_ge, oF_in, oF_nin, oF_isN, oF_notN, oF_idx, oF_slice, oF_sliceL, oF_sliceH, oF_rev, oF_len, oF_int, oF_min2, oF_max2, oF_list, oF_tuple, oF_sorted, oF_all, oF_any, oF_isInt, oF_isBool, oF_isTuple, oF_isList, oF_isStr, oF_range1, oF_range2, oF_count, oF_index, oF_index3, opR_f, dB_s, fAdd_ii, fSub_ii, fNeg_i, fLen_L, fLen_T, fLen_D, fInt_i, dLt_ii, dGt_ii, dLe_ii, fIdx_L, fIdx_T, fRev_L, fRev_T, fList_L, fList_T, fTuple_L, fTuple_T, fMin2_ii, fMax2_ii, fSlH_T, fSlL_T, fSlH_L, fSlL_L, at_0, at_1, dEq_ii, dEq_bb, dEq_tw, dIn_tw, dIn_iT, dIn_iL, evE_chn, evE_meth, chnO_t, chnO_f, evL_meth, evL_mut, evL_chn, evS_unp, evS_fgt, isIntD, isBoolD, isTupleD, isListD, isSeqD, Bool.not_true, Bool.not_false, items1, itemsF, Dt.listOf, decide_true, decide_false, h2', h3, Bool.false_and]
  have h2' : decide (2 ≤ xs.length) = true := decide_eq_true h2
  have h3 : decide ((xs.length : Int) < 2) = false := decide_eq_false (by omega)
  simp only [evS_seq, evS_skip, evS_frz, evS_set, evS_exp, evS_ret, evS_ite, evS_par, evS_putS, evS_putA, evS_for, evT_op, evT_call, evT_var, evT_bl, evT_and, evT_or, evT_not, evE_var, evE_non, evE_bl, evE_int, evE_str, evE_op, evE_and, evE_or, evE_not, evE_ite, evE_tup, evE_lst, fin0, fin1, fin2, fin3, evE_dsp, evE_call, evE_mut, evE_lc, evE_lc2, evE_dc, evL_nil, evL_pk, evL_lnt, evL_var, evL_non, evL_bl, evL_int, evL_str, evL_op, evL_tup, evL_lst, evL_call, evL_lc, evL_lc2, evL_dc, evL_ite, evL_and, evL_or, evL_not, bind_ok, ofE_ok, ofO_some, next_nx, next_ret, rdS_0, rdS_s, Option.isSome_some, if_true, Bool.false_eq_true, if_false, lnts, callO, back, endF, readAll, Option.map_some, Option.bind_some, List.set_cons_zero, List.set_cons_succ, asgT, Dt.truthy, oF_add, oF_sub, oF_neg, oF_eq, oF_ne, oF_lt, oF_gt, oF_le, oF_ge, oF_in, oF_nin, oF_isN, oF_notN, oF_idx, oF_slice, oF_sliceL, oF_sliceH, oF_rev, oF_len, oF_int, oF_min2, oF_max2, oF_list, oF_tuple, oF_sorted, oF_all, oF_any, oF_isInt, oF_isBool, oF_isTuple, oF_isList, oF_isStr, oF_range1, oF_range2, oF_count, oF_index, oF_index3, opR_f, dB_s, fAdd_ii, fSub_ii, fNeg_i, fLen_L, fLen_T, fLen_D, fInt_i, dLt_ii, dGt_ii, dLe_ii, fIdx_L, fIdx_T, fRev_L, fRev_T, fList_L, fList_T, fTuple_L, fTuple_T, fMin2_ii, fMax2_ii, fSlH_T, fSlL_T, fSlH_L, fSlL_L, at_0, at_1, dEq_ii, dEq_bb, dEq_tw, dIn_tw, dIn_iT, dIn_iL, evE_chn, evE_meth, chnO_t, chnO_f, evL_meth, evL_mut, evL_chn, evS_unp, evS_fgt, isIntD, isBoolD, isTupleD, isListD, isSeqD, Bool.not_true, Bool.not_false, items1, itemsF, Dt.listOf, decide_true, decide_false, h3, h2', Bool.true_and]
  rw [all_f (placeB n) xs (w0 := [some (.int n), some (tws ds), some (.tuple xs), none, none, none]) rfl (by omega) fun d hd => ⟨[some (.int n), some (tws ds), some (.tuple xs), some d, none, none], rfl, rfl, by simp only [evS_seq, evS_skip, evS_frz, evS_set, evS_exp, evS_ret, evS_ite, evS_par, evS_putS, evS_putA, evS_for, evT_op, evT_call, evT_var, evT_bl, evT_and, evT_or, evT_not, evE_var, evE_non, evE_bl, evE_int, evE_str, evE_op, evE_and, evE_or, evE_not, evE_ite, evE_tup, evE_lst, fin0, fin1, fin2, fin3, evE_dsp, evE_call, evE_mut, evE_lc, evE_lc2, evE_dc, evL_nil, evL_pk, evL_lnt, evL_var, evL_non, evL_bl, evL_int, evL_str, evL_op, evL_tup, evL_lst, evL_call, evL_lc, evL_lc2, evL_dc, evL_ite, evL_and, evL_or, evL_not, bind_ok, ofE_ok, ofO_some, next_nx, next_ret, rdS_0, rdS_s, Option.isSome_some, if_true, Bool.false_eq_true, if_false, lnts, callO, back, endF, readAll, Option.map_some, Option.bind_some, List.set_cons_zero, List.set_cons_succ, asgT, Dt.truthy, oF_add, oF_sub, oF_neg, oF_eq, oF_ne, oF_lt, oF_gt, oF_le, oF_ge, oF_in, oF_nin, oF_isN, oF_notN, oF_idx, oF_slice, oF_sliceL, oF_sliceH, oF_rev, oF_len, oF_int, oF_min2, oF_max2, oF_list, oF_tuple, oF_sorted, oF_all, oF_any, oF_isInt, oF_isBool, oF_isTuple, oF_isList, oF_isStr, oF_range1, oF_range2, oF_count, oF_index, oF_index3, opR_f, dB_s, fAdd_ii, fSub_ii, fNeg_i, fLen_L, fLen_T, fLen_D, fInt_i, dLt_ii, dGt_ii, dLe_ii, fIdx_L, fIdx_T, fRev_L, fRev_T, fList_L, fList_T, fTuple_L, fTuple_T, fMin2_ii, fMax2_ii, fSlH_T, fSlL_T, fSlH_L, fSlL_L, at_0, at_1, dEq_ii, dEq_bb, dEq_tw, dIn_tw, dIn_iT, dIn_iL, evE_chn, evE_meth, chnO_t, chnO_f, evL_meth, evL_mut, evL_chn, evS_unp, evS_fgt, isIntD, isBoolD, isTupleD, isListD, isSeqD, Bool.not_true, Bool.not_false, items1, itemsF, Dt.listOf, decide_true, decide_false], by simp only [evS_seq, evS_skip, evS_frz, evS_set, evS_exp, evS_ret, evS_ite, evS_par, evS_putS, evS_putA, evS_for, evT_op, evT_call, evT_var, evT_bl, evT_and, evT_or, evT_not, evE_var, evE_non, evE_bl, evE_int, evE_str, evE_op, evE_and, evE_or, evE_not, evE_ite, evE_tup, evE_lst, fin0, fin1, fin2, fin3, evE_dsp, evE_call, evE_mut, evE_lc, evE_lc2, evE_dc, evL_nil, evL_pk, evL_lnt, evL_var, evL_non, evL_bl, evL_int, evL_str, evL_op, evL_tup, evL_lst, evL_call, evL_lc, evL_lc2, evL_dc, evL_ite, evL_and, evL_or, evL_not, bind_ok, ofE_ok, ofO_some, next_nx, next_ret, rdS_0, rdS_s, Option.isSome_some, if_true, Bool.false_eq_true, if_false, lnts, callO, back, endF, readAll, Option.map_some, Option.bind_some, List.set_cons_zero, List.set_cons_succ, asgT, Dt.truthy, oF_add, oF_sub, oF_neg, oF_eq, oF_ne, oF_lt, oF_gt, oF_le, oF_ge, oF_in, oF_nin, oF_isN, oF_notN, oF_idx, oF_slice, oF_sliceL, oF_sliceH, oF_rev, oF_len, oF_int, oF_min2, oF_max2, oF_list, oF_tuple, oF_sorted, oF_all, oF_any, oF_isInt, oF_isBool, oF_isTuple, oF_isList, oF_isStr, oF_range1, oF_range2, oF_count, oF_index, oF_index3, opR_f, dB_s, fAdd_ii, fSub_ii, fNeg_i, fLen_L, fLen_T, fLen_D, fInt_i, dLt_ii, dGt_ii, dLe_ii, fIdx_L, fIdx_T, fRev_L, fRev_T, fList_L, fList_T, fTuple_L, fTuple_T, fMin2_ii, fMax2_ii, fSlH_T, fSlL_T, fSlH_L, fSlL_L, at_0, at_1, dEq_ii, dEq_bb, dEq_tw, dIn_tw, dIn_iT, dIn_iL, evE_chn, evE_meth, chnO_t, chnO_f, evL_meth, evL_mut, evL_chn, evS_unp, evS_fgt, isIntD, isBoolD, isTupleD, isListD, isSeqD, Bool.not_true, Bool.not_false, items1, itemsF, Dt.listOf, decide_true, decide_false, f2]⟩]
  simp only [evS_seq, evS_skip, evS_frz, evS_set, evS_exp, evS_ret, evS_ite, evS_par, evS_putS, evS_putA, evS_for, evT_op, evT_call, evT_var, evT_bl, evT_and, evT_or, evT_not, evE_var, evE_non, evE_bl, evE_int, evE_str, evE_op, evE_and, evE_or, evE_not, evE_ite, evE_tup, evE_lst, fin0, fin1, fin2, fin3, evE_dsp, evE_call, evE_mut, evE_lc, evE_lc2, evE_dc, evL_nil, evL_pk, evL_lnt, evL_var, evL_non, evL_bl, evL_int, evL_str, evL_op, evL_tup, evL_lst, evL_call, evL_lc, evL_lc2, evL_dc, evL_ite, evL_and, evL_or, evL_not, bind_ok, ofE_ok, ofO_some, next_nx, next_ret, rdS_0, rdS_s, Option.isSome_some, if_true, Bool.false_eq_true, if_false, lnts, callO, back, endF, readAll, Option.map_some, Option.bind_some, List.set_cons_zero, List.set_cons_succ, asgT, Dt.truthy, oF_add, oF_sub, oF_neg, oF_eq, oF_ne, oF_lt, oF_gt, oF_le, oF_ge, oF_in, oF_nin, oF_isN, oF_notN, oF_idx, oF_slice, oF_sliceL, oF_sliceH, oF_rev, oF_len, oF_int, oF_min2, oF_max2, oF_list, oF_tuple, oF_sorted, oF_all, oF_any, oF_isInt, oF_isBool, oF_isTuple, oF_isList, oF_isStr, oF_range1, oF_range2, oF_count, oF_index, oF_index3, opR_f, dB_s, fAdd_ii, fSub_ii, fNeg_i, fLen_L, fLen_T, fLen_D, fInt_i, dLt_ii, dGt_ii, dLe_ii, fIdx_L, fIdx_T, fRev_L, fRev_T, fList_L, fList_T, fTuple_L, fTuple_T, fMin2_ii, fMax2_ii, fSlH_T, fSlL_T, fSlH_L, fSlL_L, at_0, at_1, dEq_ii, dEq_bb, dEq_tw, dIn_tw, dIn_iT, dIn_iL, evE_chn, evE_meth, chnO_t, chnO_f, evL_meth, evL_mut, evL_chn, evS_unp, evS_fgt, isIntD, isBoolD, isTupleD, isListD, isSeqD, Bool.not_true, Bool.not_false, items1, itemsF, Dt.listOf, decide_true, decide_false, fAll_map]
  cases hp : xs.all (placeB n) with
  | false => simp only [evS_seq, evS_skip, evS_frz, evS_set, evS_exp, evS_ret, evS_ite, evS_par, evS_putS, evS_putA, evS_for, evT_op, evT_call, evT_var, evT_bl, evT_and, evT_or, evT_not, evE_var, evE_non, evE_bl, evE_int, evE_str, evE_op, evE_and, evE_or, evE_not, evE_ite, evE_tup, evE_lst, fin0, fin1, fin2, fin3, evE_dsp, evE_call, evE_mut, evE_lc, evE_lc2, evE_dc, evL_nil, evL_pk, evL_lnt, evL_var, evL_non, evL_bl, evL_int, evL_str, evL_op, evL_tup, evL_lst, evL_call, evL_lc, evL_lc2, evL_dc, evL_ite, evL_and, evL_or, evL_not, bind_ok, ofE_ok, ofO_some, next_nx, next_ret, rdS_0, rdS_s, Option.isSome_some, if_true, Bool.false_eq_true, if_false, lnts, callO, back, endF, readAll, Option.map_some, Option.bind_some, List.set_cons_zero, List.set_cons_succ, asgT, Dt.truthy, oF_add, oF_sub, oF_neg, oF_eq, oF_ne, oF_lt, oF_gt, oF_le, oF_ge, oF_in, oF_nin, oF_isN, oF_notN, oF_idx, oF_slice, oF_sliceL, oF_sliceH, oF_rev, oF_len, oF_int, oF_min2, oF_max2, oF_list, oF_tuple, oF_sorted, oF_all, oF_any, oF_isInt, oF_isBool, oF_isTuple, oF_isList, oF_isStr, oF_range1, oF_range2, oF_count, oF_index, oF_index3, opR_f, dB_s, fAdd_ii, fSub_ii, fNeg_i, fLen_L, fLen_T, fLen_D, fInt_i, dLt_ii, dGt_ii, dLe_ii, fIdx_L, fIdx_T, fRev_L, fRev_T, fList_L, fList_T, fTuple_L, fTuple_T, fMin2_ii, fMax2_ii, fSlH_T, fSlL_T, fSlH_L, fSlL_L, at_0, at_1, dEq_ii, dEq_bb, dEq_tw, dIn_tw, dIn_iT, dIn_iL, evE_chn, evE_meth, chnO_t, chnO_f, evL_meth, evL_mut, evL_chn, evS_unp, evS_fgt, isIntD, isBoolD, isTupleD, isListD, isSeqD, Bool.not_true, Bool.not_false, items1, itemsF, Dt.listOf, decide_true, decide_false, Bool.false_and]
  | true =>
    have ex := ints_of hp
    generalize xs.map toI = w at ex ⊢
    subst ex
    have hw : w.length ≤ 1000 := by simpa using hl
    simp only [evS_seq, evS_skip, evS_frz, evS_set, evS_exp, evS_ret, evS_ite, evS_par, evS_putS, evS_putA, evS_for, evT_op, evT_call, evT_var, evT_bl, evT_and, evT_or, evT_not, evE_var, evE_non, evE_bl, evE_int, evE_str, evE_op, evE_and, evE_or, evE_not, evE_ite, evE_tup, evE_lst, fin0, fin1, fin2, fin3, evE_dsp, evE_call, evE_mut, evE_lc, evE_lc2, evE_dc, evL_nil, evL_pk, evL_lnt, evL_var, evL_non, evL_bl, evL_int, evL_str, evL_op, evL_tup, evL_lst, evL_call, evL_lc, evL_lc2, evL_dc, evL_ite, evL_and, evL_or, evL_not, bind_ok, ofE_ok, ofO_some, next_nx, next_ret, rdS_0, rdS_s, Option.isSome_some, if_true, Bool.false_eq_true, if_false, lnts, callO, back, endF, readAll, Option.map_some, Option.bind_some, List.set_cons_zero, List.set_cons_succ, asgT, Dt.truthy, oF_add, oF_sub, oF_neg, oF_eq, oF_ne, oF_lt, oF_gt, oF_le, oF_ge, oF_in, oF_nin, oF_isN, oF_notN, oF_idx, oF_slice, oF_sliceL, oF_sliceH, oF_rev, oF_len, oF_int, oF_min2, oF_max2, oF_list, oF_tuple, oF_sorted, oF_all, oF_any, oF_isInt, oF_isBool, oF_isTuple, oF_isList, oF_isStr, oF_range1, oF_range2, oF_count, oF_index, oF_index3, opR_f, dB_s, fAdd_ii, fSub_ii, fNeg_i, fLen_L, fLen_T, fLen_D, fInt_i, dLt_ii, dGt_ii, dLe_ii, fIdx_L, fIdx_T, fRev_L, fRev_T, fList_L, fList_T, fTuple_L, fTuple_T, fMin2_ii, fMax2_ii, fSlH_T, fSlL_T, fSlH_L, fSlL_L, at_0, at_1, dEq_ii, dEq_bb, dEq_tw, dIn_tw, dIn_iT, dIn_iL, evE_chn, evE_meth, chnO_t, chnO_f, evL_meth, evL_mut, evL_chn, evS_unp, evS_fgt, isIntD, isBoolD, isTupleD, isListD, isSeqD, Bool.not_true, Bool.not_false, items1, itemsF, Dt.listOf, decide_true, decide_false, Bool.true_and]
    obtain ⟨es, q1, q2⟩ := dict_ints (own := [3]) (tg := .v 3) (c := evT ⟨Dt.run P0 12 (k + 3), 12, P0.sub⟩ (.bl true)) (ek := evE ⟨Dt.run P0 12 (k + 3), 12, P0.sub⟩ (.var 3)) (ev := evE ⟨Dt.run P0 12 (k + 3), 12, P0.sub⟩ (.bl true)) (σ := [some (.int n), some (tws ds), some (.tuple (iL w)), none, none, none]) (w0 := [some (.int n), some (tws ds), some (.tuple (iL w)), none, none, none]) w rfl (by rw [sl24]; omega)
      fun x hx => ⟨[some (.int n), some (tws ds), some (.tuple (iL w)), some (.int x), none, none], .bool true, rfl, rfl, by simp only [evS_seq, evS_skip, evS_frz, evS_set, evS_exp, evS_ret, evS_ite, evS_par, evS_putS, evS_putA, evS_for, evT_op, evT_call, evT_var, evT_bl, evT_and, evT_or, evT_not, evE_var, evE_non, evE_bl, evE_int, evE_str, evE_op, evE_and, evE_or, evE_not, evE_ite, evE_tup, evE_lst, fin0, fin1, fin2, fin3, evE_dsp, evE_call, evE_mut, evE_lc, evE_lc2, evE_dc, evL_nil, evL_pk, evL_lnt, evL_var, evL_non, evL_bl, evL_int, evL_str, evL_op, evL_tup, evL_lst, evL_call, evL_lc, evL_lc2, evL_dc, evL_ite, evL_and, evL_or, evL_not, bind_ok, ofE_ok, ofO_some, next_nx, next_ret, rdS_0, rdS_s, Option.isSome_some, if_true, Bool.false_eq_true, if_false, lnts, callO, back, endF, readAll, Option.map_some, Option.bind_some, List.set_cons_zero, List.set_cons_succ, asgT, Dt.truthy, oF_add, oF_sub, oF_neg, oF_eq, oF_ne, oF_lt, oF_gt, oF_le, oF_ge, oF_in, oF_nin, oF_isN, oF_notN, oF_idx, oF_slice, oF_sliceL, oF_sliceH, oF_rev, oF_len, oF_int, oF_min2, oF_max2, oF_list, oF_tuple, oF_sorted, oF_all, oF_any, oF_isInt, oF_isBool, oF_isTuple, oF_isList, oF_isStr, oF_range1, oF_range2, oF_count, oF_index, oF_index3, opR_f, dB_s, fAdd_ii, fSub_ii, fNeg_i, fLen_L, fLen_T, fLen_D, fInt_i, dLt_ii, dGt_ii, dLe_ii, fIdx_L, fIdx_T, fRev_L, fRev_T, fList_L, fList_T, fTuple_L, fTuple_T, fMin2_ii, fMax2_ii, fSlH_T, fSlL_T, fSlH_L, fSlL_L, at_0, at_1, dEq_ii, dEq_bb, dEq_tw, dIn_tw, dIn_iT, dIn_iL, evE_chn, evE_meth, chnO_t, chnO_f, evL_meth, evL_mut, evL_chn, evS_unp, evS_fgt, isIntD, isBoolD, isTupleD, isListD, isSeqD, Bool.not_true, Bool.not_false, items1, itemsF, Dt.listOf, decide_true, decide_false], by simp only [evS_seq, evS_skip, evS_frz, evS_set, evS_exp, evS_ret, evS_ite, evS_par, evS_putS, evS_putA, evS_for, evT_op, evT_call, evT_var, evT_bl, evT_and, evT_or, evT_not, evE_var, evE_non, evE_bl, evE_int, evE_str, evE_op, evE_and, evE_or, evE_not, evE_ite, evE_tup, evE_lst, fin0, fin1, fin2, fin3, evE_dsp, evE_call, evE_mut, evE_lc, evE_lc2, evE_dc, evL_nil, evL_pk, evL_lnt, evL_var, evL_non, evL_bl, evL_int, evL_str, evL_op, evL_tup, evL_lst, evL_call, evL_lc, evL_lc2, evL_dc, evL_ite, evL_and, evL_or, evL_not, bind_ok, ofE_ok, ofO_some, next_nx, next_ret, rdS_0, rdS_s, Option.isSome_some, if_true, Bool.false_eq_true, if_false, lnts, callO, back, endF, readAll, Option.map_some, Option.bind_some, List.set_cons_zero, List.set_cons_succ, asgT, Dt.truthy, oF_add, oF_sub, oF_neg, oF_eq, oF_ne, oF_lt, oF_gt, oF_le, oF_ge, oF_in, oF_nin, oF_isN, oF_notN, oF_idx, oF_slice, oF_sliceL, oF_sliceH, oF_rev, oF_len, oF_int, oF_min2, oF_max2, oF_list, oF_tuple, oF_sorted, oF_all, oF_any, oF_isInt, oF_isBool, oF_isTuple, oF_isList, oF_isStr, oF_range1, oF_range2, oF_count, oF_index, oF_index3, opR_f, dB_s, fAdd_ii, fSub_ii, fNeg_i, fLen_L, fLen_T, fLen_D, fInt_i, dLt_ii, dGt_ii, dLe_ii, fIdx_L, fIdx_T, fRev_L, fRev_T, fList_L, fList_T, fTuple_L, fTuple_T, fMin2_ii, fMax2_ii, fSlH_T, fSlL_T, fSlH_L, fSlL_L, at_0, at_1, dEq_ii, dEq_bb, dEq_tw, dIn_tw, dIn_iT, dIn_iL, evE_chn, evE_meth, chnO_t, chnO_f, evL_meth, evL_mut, evL_chn, evS_unp, evS_fgt, isIntD, isBoolD, isTupleD, isListD, isSeqD, Bool.not_true, Bool.not_false, items1, itemsF, Dt.listOf, decide_true, decide_false], by simp only [evS_seq, evS_skip, evS_frz, evS_set, evS_exp, evS_ret, evS_ite, evS_par, evS_putS, evS_putA, evS_for, evT_op, evT_call, evT_var, evT_bl, evT_and, evT_or, evT_not, evE_var, evE_non, evE_bl, evE_int, evE_str, evE_op, evE_and, evE_or, evE_not, evE_ite, evE_tup, evE_lst, fin0, fin1, fin2, fin3, evE_dsp, evE_call, evE_mut, evE_lc, evE_lc2, evE_dc, evL_nil, evL_pk, evL_lnt, evL_var, evL_non, evL_bl, evL_int, evL_str, evL_op, evL_tup, evL_lst, evL_call, evL_lc, evL_lc2, evL_dc, evL_ite, evL_and, evL_or, evL_not, bind_ok, ofE_ok, ofO_some, next_nx, next_ret, rdS_0, rdS_s, Option.isSome_some, if_true, Bool.false_eq_true, if_false, lnts, callO, back, endF, readAll, Option.map_some, Option.bind_some, List.set_cons_zero, List.set_cons_succ, asgT, Dt.truthy, oF_add, oF_sub, oF_neg, oF_eq, oF_ne, oF_lt, oF_gt, oF_le, oF_ge, oF_in, oF_nin, oF_isN, oF_notN, oF_idx, oF_slice, oF_sliceL, oF_sliceH, oF_rev, oF_len, oF_int, oF_min2, oF_max2, oF_list, oF_tuple, oF_sorted, oF_all, oF_any, oF_isInt, oF_isBool, oF_isTuple, oF_isList, oF_isStr, oF_range1, oF_range2, oF_count, oF_index, oF_index3, opR_f, dB_s, fAdd_ii, fSub_ii, fNeg_i, fLen_L, fLen_T, fLen_D, fInt_i, dLt_ii, dGt_ii, dLe_ii, fIdx_L, fIdx_T, fRev_L, fRev_T, fList_L, fList_T, fTuple_L, fTuple_T, fMin2_ii, fMax2_ii, fSlH_T, fSlL_T, fSlH_L, fSlL_L, at_0, at_1, dEq_ii, dEq_bb, dEq_tw, dIn_tw, dIn_iT, dIn_iL, evE_chn, evE_meth, chnO_t, chnO_f, evL_meth, evL_mut, evL_chn, evS_unp, evS_fgt, isIntD, isBoolD, isTupleD, isListD, isSeqD, Bool.not_true, Bool.not_false, items1, itemsF, Dt.listOf, decide_true, decide_false]⟩
    rw [q1]
    have le : es.length = (dedup [] w).length := by
      have := congrArg List.length q2
      simpa using this
    have ll : (iL w).length = w.length := List.length_map ..
    have dd := dedup_all (r := w) (ks := [])
    have dl := dedup_le (r := w) (ks := [])
    simp only [List.length_nil, Nat.zero_add] at dd dl
    unfold wayW
    by_cases hn : w.Nodup
    · have h4 : decide ((es.length : Int) < ((iL w).length : Int)) = false := decide_eq_false (by rw [le, ll, dd.mpr ⟨hn, fun _ _ z => nomatch z⟩]; omega)
      have c1 : cutD (iL w) (some ((1 : Nat) : Int)) none = iL (w.drop 1) := by rw [cut_lo, ← List.map_drop]
      have c1 : cutD (iL w) (some 1) none = iL (w.drop 1) := c1
      simp only [evS_seq, evS_skip, evS_frz, evS_set, evS_exp, evS_ret, evS_ite, evS_par, evS_putS, evS_putA, evS_for, evT_op, evT_call, evT_var, evT_bl, evT_and, evT_or, evT_not, evE_var, evE_non, evE_bl, evE_int, evE_str, evE_op, evE_and, evE_or, evE_not, evE_ite, evE_tup, evE_lst, fin0, fin1, fin2, fin3, evE_dsp, evE_call, evE_mut, evE_lc, evE_lc2, evE_dc, evL_nil, evL_pk, evL_lnt, evL_var, evL_non, evL_bl, evL_int, evL_str, evL_op, evL_tup, evL_lst, evL_call, evL_lc, evL_lc2, evL_dc, evL_ite, evL_and, evL_or, evL_not, bind_ok, ofE_ok, ofO_some, next_nx, next_ret, rdS_0, rdS_s, Option.isSome_some, if_true, Bool.false_eq_true, if_false, lnts, callO, back, endF, readAll, Option.map_some, Option.bind_some, List.set_cons_zero, List.set_cons_succ, asgT, Dt.truthy, oF_add, oF_sub, oF_neg, oF_eq, oF_ne, oF_lt, oF_gt, oF_le, oF_ge, oF_in, oF_nin, oF_isN, oF_notN, oF_idx, oF_slice, oF_sliceL, oF_sliceH, oF_rev, oF_len, oF_int, oF_min2, oF_max2, oF_list, oF_tuple, oF_sorted, oF_all, oF_any, oF_isInt, oF_isBool, oF_isTuple, oF_isList, oF_isStr, oF_range1, oF_range2, oF_count, oF_index, oF_index3, opR_f, dB_s, fAdd_ii, fSub_ii, fNeg_i, fLen_L, fLen_T, fLen_D, fInt_i, dLt_ii, dGt_ii, dLe_ii, fIdx_L, fIdx_T, fRev_L, fRev_T, fList_L, fList_T, fTuple_L, fTuple_T, fMin2_ii, fMax2_ii, fSlH_T, fSlL_T, fSlH_L, fSlL_L, at_0, at_1, dEq_ii, dEq_bb, dEq_tw, dIn_tw, dIn_iT, dIn_iL, evE_chn, evE_meth, chnO_t, chnO_f, evL_meth, evL_mut, evL_chn, evS_unp, evS_fgt, isIntD, isBoolD, isTupleD, isListD, isSeqD, Bool.not_true, Bool.not_false, items1, itemsF, Dt.listOf, decide_true, decide_false, h4, itZp, c1, zip_iL, hn]
      rw [all_f (pinB ds) ((w.zip (w.drop 1)).map tw) (w0 := [some (.int n), some (tws ds), some (.tuple (iL w)), none, none, none]) rfl (by simp; omega) fun d hd => by
        obtain ⟨⟨a, b⟩, hab, rfl⟩ := List.mem_map.mp hd
        exact ⟨[some (.int n), some (tws ds), some (.tuple (iL w)), none, some (.int a), some (.int b)], rfl, rfl, by simp only [evS_seq, evS_skip, evS_frz, evS_set, evS_exp, evS_ret, evS_ite, evS_par, evS_putS, evS_putA, evS_for, evT_op, evT_call, evT_var, evT_bl, evT_and, evT_or, evT_not, evE_var, evE_non, evE_bl, evE_int, evE_str, evE_op, evE_and, evE_or, evE_not, evE_ite, evE_tup, evE_lst, fin0, fin1, fin2, fin3, evE_dsp, evE_call, evE_mut, evE_lc, evE_lc2, evE_dc, evL_nil, evL_pk, evL_lnt, evL_var, evL_non, evL_bl, evL_int, evL_str, evL_op, evL_tup, evL_lst, evL_call, evL_lc, evL_lc2, evL_dc, evL_ite, evL_and, evL_or, evL_not, bind_ok, ofE_ok, ofO_some, next_nx, next_ret, rdS_0, rdS_s, Option.isSome_some, if_true, Bool.false_eq_true, if_false, lnts, callO, back, endF, readAll, Option.map_some, Option.bind_some, List.set_cons_zero, List.set_cons_succ, asgT, Dt.truthy, oF_add, oF_sub, oF_neg, oF_eq, oF_ne, oF_lt, oF_gt, oF_le, oF_ge, oF_in, oF_nin, oF_isN, oF_notN, oF_idx, oF_slice, oF_sliceL, oF_sliceH, oF_rev, oF_len, oF_int, oF_min2, oF_max2, oF_list, oF_tuple, oF_sorted, oF_all, oF_any, oF_isInt, oF_isBool, oF_isTuple, oF_isList, oF_isStr, oF_range1, oF_range2, oF_count, oF_index, oF_index3, opR_f, dB_s, fAdd_ii, fSub_ii, fNeg_i, fLen_L, fLen_T, fLen_D, fInt_i, dLt_ii, dGt_ii, dLe_ii, fIdx_L, fIdx_T, fRev_L, fRev_T, fList_L, fList_T, fTuple_L, fTuple_T, fMin2_ii, fMax2_ii, fSlH_T, fSlL_T, fSlH_L, fSlL_L, at_0, at_1, dEq_ii, dEq_bb, dEq_tw, dIn_tw, dIn_iT, dIn_iL, evE_chn, evE_meth, chnO_t, chnO_f, evL_meth, evL_mut, evL_chn, evS_unp, evS_fgt, isIntD, isBoolD, isTupleD, isListD, isSeqD, Bool.not_true, Bool.not_false, items1, itemsF, Dt.listOf, decide_true, decide_false], by simp only [evS_seq, evS_skip, evS_frz, evS_set, evS_exp, evS_ret, evS_ite, evS_par, evS_putS, evS_putA, evS_for, evT_op, evT_call, evT_var, evT_bl, evT_and, evT_or, evT_not, evE_var, evE_non, evE_bl, evE_int, evE_str, evE_op, evE_and, evE_or, evE_not, evE_ite, evE_tup, evE_lst, fin0, fin1, fin2, fin3, evE_dsp, evE_call, evE_mut, evE_lc, evE_lc2, evE_dc, evL_nil, evL_pk, evL_lnt, evL_var, evL_non, evL_bl, evL_int, evL_str, evL_op, evL_tup, evL_lst, evL_call, evL_lc, evL_lc2, evL_dc, evL_ite, evL_and, evL_or, evL_not, bind_ok, ofE_ok, ofO_some, next_nx, next_ret, rdS_0, rdS_s, Option.isSome_some, if_true, Bool.false_eq_true, if_false, lnts, callO, back, endF, readAll, Option.map_some, Option.bind_some, List.set_cons_zero, List.set_cons_succ, asgT, Dt.truthy, oF_add, oF_sub, oF_neg, oF_eq, oF_ne, oF_lt, oF_gt, oF_le, oF_ge, oF_in, oF_nin, oF_isN, oF_notN, oF_idx, oF_slice, oF_sliceL, oF_sliceH, oF_rev, oF_len, oF_int, oF_min2, oF_max2, oF_list, oF_tuple, oF_sorted, oF_all, oF_any, oF_isInt, oF_isBool, oF_isTuple, oF_isList, oF_isStr, oF_range1, oF_range2, oF_count, oF_index, oF_index3, opR_f, dB_s, fAdd_ii, fSub_ii, fNeg_i, fLen_L, fLen_T, fLen_D, fInt_i, dLt_ii, dGt_ii, dLe_ii, fIdx_L, fIdx_T, fRev_L, fRev_T, fList_L, fList_T, fTuple_L, fTuple_T, fMin2_ii, fMax2_ii, fSlH_T, fSlL_T, fSlH_L, fSlL_L, at_0, at_1, dEq_ii, dEq_bb, dEq_tw, dIn_tw, dIn_iT, dIn_iL, evE_chn, evE_meth, chnO_t, chnO_f, evL_meth, evL_mut, evL_chn, evS_unp, evS_fgt, isIntD, isBoolD, isTupleD, isListD, isSeqD, Bool.not_true, Bool.not_false, items1, itemsF, Dt.listOf, decide_true, decide_false, pinB]⟩]
      simp only [evS_seq, evS_skip, evS_frz, evS_set, evS_exp, evS_ret, evS_ite, evS_par, evS_putS, evS_putA, evS_for, evT_op, evT_call, evT_var, evT_bl, evT_and, evT_or, evT_not, evE_var, evE_non, evE_bl, evE_int, evE_str, evE_op, evE_and, evE_or, evE_not, evE_ite, evE_tup, evE_lst, fin0, fin1, fin2, fin3, evE_dsp, evE_call, evE_mut, evE_lc, evE_lc2, evE_dc, evL_nil, evL_pk, evL_lnt, evL_var, evL_non, evL_bl, evL_int, evL_str, evL_op, evL_tup, evL_lst, evL_call, evL_lc, evL_lc2, evL_dc, evL_ite, evL_and, evL_or, evL_not, bind_ok, ofE_ok, ofO_some, next_nx, next_ret, rdS_0, rdS_s, Option.isSome_some, if_true, Bool.false_eq_true, if_false, lnts, callO, back, endF, readAll, Option.map_some, Option.bind_some, List.set_cons_zero, List.set_cons_succ, asgT, Dt.truthy, oF_add, oF_sub, oF_neg, oF_eq, oF_ne, oF_lt, oF_gt, oF_le, oF_ge, oF_in, oF_nin, oF_isN, oF_notN, oF_idx, oF_slice, oF_sliceL, oF_sliceH, oF_rev, oF_len, oF_int, oF_min2, oF_max2, oF_list, oF_tuple, oF_sorted, oF_all, oF_any, oF_isInt, oF_isBool, oF_isTuple, oF_isList, oF_isStr, oF_range1, oF_range2, oF_count, oF_index, oF_index3, opR_f, dB_s, fAdd_ii, fSub_ii, fNeg_i, fLen_L, fLen_T, fLen_D, fInt_i, dLt_ii, dGt_ii, dLe_ii, fIdx_L, fIdx_T, fRev_L, fRev_T, fList_L, fList_T, fTuple_L, fTuple_T, fMin2_ii, fMax2_ii, fSlH_T, fSlL_T, fSlH_L, fSlL_L, at_0, at_1, dEq_ii, dEq_bb, dEq_tw, dIn_tw, dIn_iT, dIn_iL, evE_chn, evE_meth, chnO_t, chnO_f, evL_meth, evL_mut, evL_chn, evS_unp, evS_fgt, isIntD, isBoolD, isTupleD, isListD, isSeqD, Bool.not_true, Bool.not_false, items1, itemsF, Dt.listOf, decide_true, decide_false, fAll_map, Bool.true_and, List.all_map]
      congr 3
    · have h4 : decide ((es.length : Int) < ((iL w).length : Int)) = true := decide_eq_true (by
        rw [le, ll]
        have : (dedup [] w).length ≠ w.length := fun z => hn (dd.mp z).1
        omega)
      simp only [evS_seq, evS_skip, evS_frz, evS_set, evS_exp, evS_ret, evS_ite, evS_par, evS_putS, evS_putA, evS_for, evT_op, evT_call, evT_var, evT_bl, evT_and, evT_or, evT_not, evE_var, evE_non, evE_bl, evE_int, evE_str, evE_op, evE_and, evE_or, evE_not, evE_ite, evE_tup, evE_lst, fin0, fin1, fin2, fin3, evE_dsp, evE_call, evE_mut, evE_lc, evE_lc2, evE_dc, evL_nil, evL_pk, evL_lnt, evL_var, evL_non, evL_bl, evL_int, evL_str, evL_op, evL_tup, evL_lst, evL_call, evL_lc, evL_lc2, evL_dc, evL_ite, evL_and, evL_or, evL_not, bind_ok, ofE_ok, ofO_some, next_nx, next_ret, rdS_0, rdS_s, Option.isSome_some, if_true, Bool.false_eq_true, if_false, lnts, callO, back, endF, readAll, Option.map_some, Option.bind_some, List.set_cons_zero, List.set_cons_succ, asgT, Dt.truthy, oF_add, oF_sub, oF_neg, oF_eq, oF_ne, oF_lt, oF_gt, oF_le, oF_ge, oF_in, oF_nin, oF_isN, oF_notN, oF_idx, oF_slice, oF_sliceL, oF_sliceH, oF_rev, oF_len, oF_int, oF_min2, oF_max2, oF_list, oF_tuple, oF_sorted, oF_all, oF_any, oF_isInt, oF_isBool, oF_isTuple, oF_isList, oF_isStr, oF_range1, oF_range2, oF_count, oF_index, oF_index3, opR_f, dB_s, fAdd_ii, fSub_ii, fNeg_i, fLen_L, fLen_T, fLen_D, fInt_i, dLt_ii, dGt_ii, dLe_ii, fIdx_L, fIdx_T, fRev_L, fRev_T, fList_L, fList_T, fTuple_L, fTuple_T, fMin2_ii, fMax2_ii, fSlH_T, fSlL_T, fSlH_L, fSlL_L, at_0, at_1, dEq_ii, dEq_bb, dEq_tw, dIn_tw, dIn_iT, dIn_iL, evE_chn, evE_meth, chnO_t, chnO_f, evL_meth, evL_mut, evL_chn, evS_unp, evS_fgt, isIntD, isBoolD, isTupleD, isListD, isSeqD, Bool.not_true, Bool.not_false, items1, itemsF, Dt.listOf, decide_true, decide_false, h4, hn, Bool.false_and]
end K14
end
section
set_option Elab.async false
set_option linter.all false
set_option maxRecDepth 100000
set_option maxHeartbeats 4000000
namespace K14
open PySem Dt
theorem zip_all (w : List Int) (q : Int × Int → Bool) : (w.zip (w.drop 1)).all q = true ↔ ∀ j, (h : j + 1 < w.length) → q (w[j], w[j + 1]) = true := by
  rw [List.all_eq_true]
  constructor
  · intro h j hj
    have m : (w[j], w[j + 1]) ∈ w.zip (w.drop 1) := by
      rw [List.mem_iff_getElem]
      refine ⟨j, by rw [List.length_zip, List.length_drop]; omega, ?_⟩
      rw [List.getElem_zip, List.getElem_drop]
      simp only [Nat.add_comm]
    exact h _ m
  · intro h p hp
    obtain ⟨j, hj, rfl⟩ := List.mem_iff_getElem.mp hp
    rw [List.length_zip, List.length_drop] at hj
    rw [List.getElem_zip, List.getElem_drop]
    have := h j (by omega)
    simp only [Nat.add_comm 1 j]
    exact this
def pK (ds : List (Int × Int)) (w : List Int) : D → Bool
  | .int i => !decide ((w[(i - 1).toNat]?.getD 0, w[i.toNat]?.getD 0) ∈ ds)
  | _ => false
theorem pK_filter (ds : List (Int × Int)) (w : List Int) : ((rangeD 1 (w.length : Nat)).filter (pK ds w)).isEmpty = (w.zip (w.drop 1)).all fun p => decide (p ∈ ds) := by
  rw [Bool.eq_iff_iff, zip_all, List.isEmpty_iff, List.filter_eq_nil_iff]
  unfold rangeD
  constructor
  · intro h j hj
    have := h (.int (1 + j)) (List.mem_map.mpr ⟨j, List.mem_range.mpr (by omega), rfl⟩)
    have e : pK ds w (.int (1 + j)) = !decide ((w[((1 : Int) + j - 1).toNat]?.getD 0, w[((1 : Int) + j).toNat]?.getD 0) ∈ ds) := rfl
    rw [e, show ((1 : Int) + j - 1).toNat = j by omega, show ((1 : Int) + j).toNat = j + 1 by omega, List.getElem?_eq_getElem (by omega), List.getElem?_eq_getElem hj] at this
    simpa using this
  · rintro h d hd
    obtain ⟨j, hj, rfl⟩ := List.mem_map.mp hd
    have hj := List.mem_range.mp hj
    have e : pK ds w (.int (1 + j)) = !decide ((w[((1 : Int) + j - 1).toNat]?.getD 0, w[((1 : Int) + j).toNat]?.getD 0) ∈ ds) := rfl
    rw [e, show ((1 : Int) + j - 1).toNat = j by omega, show ((1 : Int) + j).toNat = j + 1 by omega, List.getElem?_eq_getElem (by omega), List.getElem?_eq_getElem (by omega)]
    have := h j (by omega)
    simpa using this
def badB (n : Int) (xs : List D) (d : D) : Bool := !placeB n d || decide (1 < cntD xs d)
theorem cnt_iL (w : List Int) (x : Int) : cntD (iL w) (.int x) = (w.count x : Nat) := by
  unfold cntD
  rw [List.countP_map, List.count]
  congr 2
theorem bad_empty (n : Int) (xs : List D) : (xs.filter (badB n xs)).isEmpty = true ↔ xs.all (placeB n) = true ∧ (xs.map toI).Nodup := by
  rw [List.isEmpty_iff, List.filter_eq_nil_iff, List.all_eq_true]
  constructor
  · intro h
    have h1 : ∀ x ∈ xs, placeB n x = true := fun d hd => by
      have := h d hd
      unfold badB at this
      cases hp : placeB n d with
      | true => rfl
      | false => rw [hp] at this; simp at this
    refine ⟨h1, ?_⟩
    have ex := ints_of (List.all_eq_true.mpr h1)
    generalize xs.map toI = w at ex ⊢
    subst ex
    refine List.nodup_iff_count.mpr fun x => ?_
    by_cases hx : x ∈ w
    · have := h (.int x) (List.mem_map_of_mem hx)
      unfold badB at this
      rw [cnt_iL] at this
      simp only [Bool.or_eq_true, decide_eq_true_eq, not_or] at this
      omega
    · rw [List.count_eq_zero.mpr hx]
      omega
  · rintro ⟨h1, h2⟩ d hd
    have ex := ints_of (List.all_eq_true.mpr h1)
    generalize xs.map toI = w at ex h2
    subst ex
    obtain ⟨x, hx, rfl⟩ := List.mem_map.mp hd
    unfold badB
    rw [cnt_iL, h1 _ hd]
    have := List.nodup_iff_count.mp h2 x
    simp only [Bool.not_true, Bool.false_or, decide_eq_true_eq]
    omega
theorem f24n (k : Nat) (n p v : D) (h : isTupleD v = false) : Dt.run P0 12 (k + 1) 24 [n, p, v] = .ret (.bool false) [] := by
  rw [run__law_is_way]
  unfold b__law_is_way
  have e : opF .isTuple [v] = some (.bool false) := by rw [oF_isTuple, h]
  simp only [evS_seq, evS_ite, evT_or, evT_not, evT_op, evE_op, evL_pk, evL_nil, rdS_0, rdS_s, Option.isSome_some, if_true, bind_ok, ofO_some, opR_f, e, Dt.truthy, Bool.not_false, ofE_ok, evS_ret, evE_bl, next_ret, evS_skip, endF, readAll]
theorem f24 (k : Nat) (n : Int) (ds : List (Int × Int)) (xs : List D) (hl : xs.length ≤ 1000) (ok : okL xs) : Dt.run P0 12 (k + 2) 24 [.int n, tws ds, .tuple xs] = .ret (.bool (wayB n ds xs)) [] := by
  rw [run__law_is_way]
  unfold b__law_is_way wayB
  by_cases h2 : 2 ≤ xs.length
  case neg =>
    have h2' : decide (2 ≤ xs.length) = false := decide_eq_false h2
    have h3 : decide ((xs.length : Int) < 2) = true := decide_eq_true (by omega)
    simp only [evS_seq, evS_skip, evS_frz, evS_set, evS_exp, evS_ret, evS_ite, evS_par, evS_putS, evS_putA, evS_for, evT_op, evT_call, evT_var, evT_bl, evT_and, evT_or, evT_not, evE_var, evE_non, evE_bl, evE_int, evE_str, evE_op, evE_and, evE_or, evE_not, evE_ite, evE_tup, evE_lst, fin0, fin1, fin2, fin3, evE_dsp, evE_call, evE_mut, evE_lc, evE_lc2, evE_dc, evL_nil, evL_pk, evL_lnt, evL_var, evL_non, evL_bl, evL_int, evL_str, evL_op, evL_tup, evL_lst, evL_call, evL_lc, evL_lc2, evL_dc, evL_ite, evL_and, evL_or, evL_not, bind_ok, ofE_ok, ofO_some, next_nx, next_ret, rdS_0, rdS_s, Option.isSome_some, if_true, Bool.false_eq_true, if_false, lnts, callO, back, endF, readAll, Option.map_some, Option.bind_some, List.set_cons_zero, List.set_cons_succ, asgT, Dt.truthy, oF_add, oF_sub, oF_neg, oF_eq, oF_ne, oF_lt, oF_gt, oF_le, oF_ge, oF_in, oF_nin, oF_isN, oF_notN, oF_idx, oF_slice, oF_sliceL, oF_sliceH, oF_rev, oF_len, oF_int, oF_min2, oF_max2, oF_list, oF_tuple, oF_sorted, oF_all, oF_any, oF_isInt, oF_isBool, oF_isTuple, oF_isList, oF_isStr, oF_range1, oF_range2, oF_count, oF_index, oF_index3, opR_f, dB_s, fAdd_ii, fSub_ii, fNeg_i, fLen_L, fLen_T, fLen_D, fInt_i, dLt_ii, dGt_ii, dLe_ii, fIdx_L, fIdx_T, fRev_L, fRev_T, fList_L, fList_T, fTuple_L, fTuple_T, fMin2_ii, fMax2_ii, fSlH_T, fSlL_T, fSlH_L, fSlL_L, at_0, at_1, dEq_ii, dEq_bb, dEq_tw, dIn_tw, dIn_iT, dIn_iL, evE_chn, evE_meth, chnO_t, chnO_f, evL_meth, evL_mut, evL_chn, evS_unp, evS_fgt, isIntD, isBoolD, isTupleD, isListD, isSeqD, Bool.not_true, Bool.not_false, items1, itemsF, Dt.listOf, decide_true, decide_false, h2', h3, Bool.false_and]
  have h2' : decide (2 ≤ xs.length) = true := decide_eq_true h2
  have h3 : decide ((xs.length : Int) < 2) = false := decide_eq_false (by omega)
  simp only [evS_seq, evS_skip, evS_frz, evS_set, evS_exp, evS_ret, evS_ite, evS_par, evS_putS, evS_putA, evS_for, evT_op, evT_call, evT_var, evT_bl, evT_and, evT_or, evT_not, evE_var, evE_non, evE_bl, evE_int, evE_str, evE_op, evE_and, evE_or, evE_not, evE_ite, evE_tup, evE_lst, fin0, fin1, fin2, fin3, evE_dsp, evE_call, evE_mut, evE_lc, evE_lc2, evE_dc, evL_nil, evL_pk, evL_lnt, evL_var, evL_non, evL_bl, evL_int, evL_str, evL_op, evL_tup, evL_lst, evL_call, evL_lc, evL_lc2, evL_dc, evL_ite, evL_and, evL_or, evL_not, bind_ok, ofE_ok, ofO_some, next_nx, next_ret, rdS_0, rdS_s, Option.isSome_some, if_true, Bool.false_eq_true, if_false, lnts, callO, back, endF, readAll, Option.map_some, Option.bind_some, List.set_cons_zero, List.set_cons_succ, asgT, Dt.truthy, oF_add, oF_sub, oF_neg, oF_eq, oF_ne, oF_lt, oF_gt, oF_le, oF_ge, oF_in, oF_nin, oF_isN, oF_notN, oF_idx, oF_slice, oF_sliceL, oF_sliceH, oF_rev, oF_len, oF_int, oF_min2, oF_max2, oF_list, oF_tuple, oF_sorted, oF_all, oF_any, oF_isInt, oF_isBool, oF_isTuple, oF_isList, oF_isStr, oF_range1, oF_range2, oF_count, oF_index, oF_index3, opR_f, dB_s, fAdd_ii, fSub_ii, fNeg_i, fLen_L, fLen_T, fLen_D, fInt_i, dLt_ii, dGt_ii, dLe_ii, fIdx_L, fIdx_T, fRev_L, fRev_T, fList_L, fList_T, fTuple_L, fTuple_T, fMin2_ii, fMax2_ii, fSlH_T, fSlL_T, fSlH_L, fSlL_L, at_0, at_1, dEq_ii, dEq_bb, dEq_tw, dIn_tw, dIn_iT, dIn_iL, evE_chn, evE_meth, chnO_t, chnO_f, evL_meth, evL_mut, evL_chn, evS_unp, evS_fgt, isIntD, isBoolD, isTupleD, isListD, isSeqD, Bool.not_true, Bool.not_false, items1, itemsF, Dt.listOf, decide_true, decide_false, h3, h2', Bool.true_and]
  rw [run_pure (badB n xs) id (w0 := [some (.int n), some (tws ds), some (.tuple xs), none, none]) rfl (by rw [sl24]; omega) fun d hd => by
    refine ⟨[some (.int n), some (tws ds), some (.tuple xs), some d, none], rfl, rfl, ?_, fun _ => by simp only [evS_seq, evS_skip, evS_frz, evS_set, evS_exp, evS_ret, evS_ite, evS_par, evS_putS, evS_putA, evS_for, evT_op, evT_call, evT_var, evT_bl, evT_and, evT_or, evT_not, evE_var, evE_non, evE_bl, evE_int, evE_str, evE_op, evE_and, evE_or, evE_not, evE_ite, evE_tup, evE_lst, fin0, fin1, fin2, fin3, evE_dsp, evE_call, evE_mut, evE_lc, evE_lc2, evE_dc, evL_nil, evL_pk, evL_lnt, evL_var, evL_non, evL_bl, evL_int, evL_str, evL_op, evL_tup, evL_lst, evL_call, evL_lc, evL_lc2, evL_dc, evL_ite, evL_and, evL_or, evL_not, bind_ok, ofE_ok, ofO_some, next_nx, next_ret, rdS_0, rdS_s, Option.isSome_some, if_true, Bool.false_eq_true, if_false, lnts, callO, back, endF, readAll, Option.map_some, Option.bind_some, List.set_cons_zero, List.set_cons_succ, asgT, Dt.truthy, oF_add, oF_sub, oF_neg, oF_eq, oF_ne, oF_lt, oF_gt, oF_le, oF_ge, oF_in, oF_nin, oF_isN, oF_notN, oF_idx, oF_slice, oF_sliceL, oF_sliceH, oF_rev, oF_len, oF_int, oF_min2, oF_max2, oF_list, oF_tuple, oF_sorted, oF_all, oF_any, oF_isInt, oF_isBool, oF_isTuple, oF_isList, oF_isStr, oF_range1, oF_range2, oF_count, oF_index, oF_index3, opR_f, dB_s, fAdd_ii, fSub_ii, fNeg_i, fLen_L, fLen_T, fLen_D, fInt_i, dLt_ii, dGt_ii, dLe_ii, fIdx_L, fIdx_T, fRev_L, fRev_T, fList_L, fList_T, fTuple_L, fTuple_T, fMin2_ii, fMax2_ii, fSlH_T, fSlL_T, fSlH_L, fSlL_L, at_0, at_1, dEq_ii, dEq_bb, dEq_tw, dIn_tw, dIn_iT, dIn_iL, evE_chn, evE_meth, chnO_t, chnO_f, evL_meth, evL_mut, evL_chn, evS_unp, evS_fgt, isIntD, isBoolD, isTupleD, isListD, isSeqD, Bool.not_true, Bool.not_false, items1, itemsF, Dt.listOf, decide_true, decide_false, id]⟩
    cases hp : placeB n d with
    | false => simp only [evS_seq, evS_skip, evS_frz, evS_set, evS_exp, evS_ret, evS_ite, evS_par, evS_putS, evS_putA, evS_for, evT_op, evT_call, evT_var, evT_bl, evT_and, evT_or, evT_not, evE_var, evE_non, evE_bl, evE_int, evE_str, evE_op, evE_and, evE_or, evE_not, evE_ite, evE_tup, evE_lst, fin0, fin1, fin2, fin3, evE_dsp, evE_call, evE_mut, evE_lc, evE_lc2, evE_dc, evL_nil, evL_pk, evL_lnt, evL_var, evL_non, evL_bl, evL_int, evL_str, evL_op, evL_tup, evL_lst, evL_call, evL_lc, evL_lc2, evL_dc, evL_ite, evL_and, evL_or, evL_not, bind_ok, ofE_ok, ofO_some, next_nx, next_ret, rdS_0, rdS_s, Option.isSome_some, if_true, Bool.false_eq_true, if_false, lnts, callO, back, endF, readAll, Option.map_some, Option.bind_some, List.set_cons_zero, List.set_cons_succ, asgT, Dt.truthy, oF_add, oF_sub, oF_neg, oF_eq, oF_ne, oF_lt, oF_gt, oF_le, oF_ge, oF_in, oF_nin, oF_isN, oF_notN, oF_idx, oF_slice, oF_sliceL, oF_sliceH, oF_rev, oF_len, oF_int, oF_min2, oF_max2, oF_list, oF_tuple, oF_sorted, oF_all, oF_any, oF_isInt, oF_isBool, oF_isTuple, oF_isList, oF_isStr, oF_range1, oF_range2, oF_count, oF_index, oF_index3, opR_f, dB_s, fAdd_ii, fSub_ii, fNeg_i, fLen_L, fLen_T, fLen_D, fInt_i, dLt_ii, dGt_ii, dLe_ii, fIdx_L, fIdx_T, fRev_L, fRev_T, fList_L, fList_T, fTuple_L, fTuple_T, fMin2_ii, fMax2_ii, fSlH_T, fSlL_T, fSlH_L, fSlL_L, at_0, at_1, dEq_ii, dEq_bb, dEq_tw, dIn_tw, dIn_iT, dIn_iL, evE_chn, evE_meth, chnO_t, chnO_f, evL_meth, evL_mut, evL_chn, evS_unp, evS_fgt, isIntD, isBoolD, isTupleD, isListD, isSeqD, Bool.not_true, Bool.not_false, items1, itemsF, Dt.listOf, decide_true, decide_false, f23, hp, badB, Bool.true_or]
    | true =>
      have okd : okD d = true := by cases d <;> first | rfl | cases hp
      have e : fCount (.tuple xs) d = some (.int (cntD xs d)) := by
        show (if okD (.tuple xs) && okD d then some (PyData.int (cntD xs d)) else none) = _
        rw [okL_tuple ok, okd]
        rfl
      simp only [evS_seq, evS_skip, evS_frz, evS_set, evS_exp, evS_ret, evS_ite, evS_par, evS_putS, evS_putA, evS_for, evT_op, evT_call, evT_var, evT_bl, evT_and, evT_or, evT_not, evE_var, evE_non, evE_bl, evE_int, evE_str, evE_op, evE_and, evE_or, evE_not, evE_ite, evE_tup, evE_lst, fin0, fin1, fin2, fin3, evE_dsp, evE_call, evE_mut, evE_lc, evE_lc2, evE_dc, evL_nil, evL_pk, evL_lnt, evL_var, evL_non, evL_bl, evL_int, evL_str, evL_op, evL_tup, evL_lst, evL_call, evL_lc, evL_lc2, evL_dc, evL_ite, evL_and, evL_or, evL_not, bind_ok, ofE_ok, ofO_some, next_nx, next_ret, rdS_0, rdS_s, Option.isSome_some, if_true, Bool.false_eq_true, if_false, lnts, callO, back, endF, readAll, Option.map_some, Option.bind_some, List.set_cons_zero, List.set_cons_succ, asgT, Dt.truthy, oF_add, oF_sub, oF_neg, oF_eq, oF_ne, oF_lt, oF_gt, oF_le, oF_ge, oF_in, oF_nin, oF_isN, oF_notN, oF_idx, oF_slice, oF_sliceL, oF_sliceH, oF_rev, oF_len, oF_int, oF_min2, oF_max2, oF_list, oF_tuple, oF_sorted, oF_all, oF_any, oF_isInt, oF_isBool, oF_isTuple, oF_isList, oF_isStr, oF_range1, oF_range2, oF_count, oF_index, oF_index3, opR_f, dB_s, fAdd_ii, fSub_ii, fNeg_i, fLen_L, fLen_T, fLen_D, fInt_i, dLt_ii, dGt_ii, dLe_ii, fIdx_L, fIdx_T, fRev_L, fRev_T, fList_L, fList_T, fTuple_L, fTuple_T, fMin2_ii, fMax2_ii, fSlH_T, fSlL_T, fSlH_L, fSlL_L, at_0, at_1, dEq_ii, dEq_bb, dEq_tw, dIn_tw, dIn_iT, dIn_iL, evE_chn, evE_meth, chnO_t, chnO_f, evL_meth, evL_mut, evL_chn, evS_unp, evS_fgt, isIntD, isBoolD, isTupleD, isListD, isSeqD, Bool.not_true, Bool.not_false, items1, itemsF, Dt.listOf, decide_true, decide_false, f23, hp, e, badB, Bool.false_or]]
  rw [List.map_id]
  have okf : okL (xs.filter (badB n xs)) := okL_sub ok fun d hd => (List.mem_filter.mp hd).1
  simp only [evS_seq, evS_skip, evS_frz, evS_set, evS_exp, evS_ret, evS_ite, evS_par, evS_putS, evS_putA, evS_for, evT_op, evT_call, evT_var, evT_bl, evT_and, evT_or, evT_not, evE_var, evE_non, evE_bl, evE_int, evE_str, evE_op, evE_and, evE_or, evE_not, evE_ite, evE_tup, evE_lst, fin0, fin1, fin2, fin3, evE_dsp, evE_call, evE_mut, evE_lc, evE_lc2, evE_dc, evL_nil, evL_pk, evL_lnt, evL_var, evL_non, evL_bl, evL_int, evL_str, evL_op, evL_tup, evL_lst, evL_call, evL_lc, evL_lc2, evL_dc, evL_ite, evL_and, evL_or, evL_not, bind_ok, ofE_ok, ofO_some, next_nx, next_ret, rdS_0, rdS_s, Option.isSome_some, if_true, Bool.false_eq_true, if_false, lnts, callO, back, endF, readAll, Option.map_some, Option.bind_some, List.set_cons_zero, List.set_cons_succ, asgT, Dt.truthy, oF_add, oF_sub, oF_neg, oF_eq, oF_ne, oF_lt, oF_gt, oF_le, oF_ge, oF_in, oF_nin, oF_isN, oF_notN, oF_idx, oF_slice, oF_sliceL, oF_sliceH, oF_rev, oF_len, oF_int, oF_min2, oF_max2, oF_list, oF_tuple, oF_sorted, oF_all, oF_any, oF_isInt, oF_isBool, oF_isTuple, oF_isList, oF_isStr, oF_range1, oF_range2, oF_count, oF_index, oF_index3, opR_f, dB_s, fAdd_ii, fSub_ii, fNeg_i, fLen_L, fLen_T, fLen_D, fInt_i, dLt_ii, dGt_ii, dLe_ii, fIdx_L, fIdx_T, fRev_L, fRev_T, fList_L, fList_T, fTuple_L, fTuple_T, fMin2_ii, fMax2_ii, fSlH_T, fSlL_T, fSlH_L, fSlL_L, at_0, at_1, dEq_ii, dEq_bb, dEq_tw, dIn_tw, dIn_iT, dIn_iL, evE_chn, evE_meth, chnO_t, chnO_f, evL_meth, evL_mut, evL_chn, evS_unp, evS_fgt, isIntD, isBoolD, isTupleD, isListD, isSeqD, Bool.not_true, Bool.not_false, items1, itemsF, Dt.listOf, decide_true, decide_false, dEq_nil okf]
  cases he : (xs.filter (badB n xs)).isEmpty with
  | false =>
    simp only [evS_seq, evS_skip, evS_frz, evS_set, evS_exp, evS_ret, evS_ite, evS_par, evS_putS, evS_putA, evS_for, evT_op, evT_call, evT_var, evT_bl, evT_and, evT_or, evT_not, evE_var, evE_non, evE_bl, evE_int, evE_str, evE_op, evE_and, evE_or, evE_not, evE_ite, evE_tup, evE_lst, fin0, fin1, fin2, fin3, evE_dsp, evE_call, evE_mut, evE_lc, evE_lc2, evE_dc, evL_nil, evL_pk, evL_lnt, evL_var, evL_non, evL_bl, evL_int, evL_str, evL_op, evL_tup, evL_lst, evL_call, evL_lc, evL_lc2, evL_dc, evL_ite, evL_and, evL_or, evL_not, bind_ok, ofE_ok, ofO_some, next_nx, next_ret, rdS_0, rdS_s, Option.isSome_some, if_true, Bool.false_eq_true, if_false, lnts, callO, back, endF, readAll, Option.map_some, Option.bind_some, List.set_cons_zero, List.set_cons_succ, asgT, Dt.truthy, oF_add, oF_sub, oF_neg, oF_eq, oF_ne, oF_lt, oF_gt, oF_le, oF_ge, oF_in, oF_nin, oF_isN, oF_notN, oF_idx, oF_slice, oF_sliceL, oF_sliceH, oF_rev, oF_len, oF_int, oF_min2, oF_max2, oF_list, oF_tuple, oF_sorted, oF_all, oF_any, oF_isInt, oF_isBool, oF_isTuple, oF_isList, oF_isStr, oF_range1, oF_range2, oF_count, oF_index, oF_index3, opR_f, dB_s, fAdd_ii, fSub_ii, fNeg_i, fLen_L, fLen_T, fLen_D, fInt_i, dLt_ii, dGt_ii, dLe_ii, fIdx_L, fIdx_T, fRev_L, fRev_T, fList_L, fList_T, fTuple_L, fTuple_T, fMin2_ii, fMax2_ii, fSlH_T, fSlL_T, fSlH_L, fSlL_L, at_0, at_1, dEq_ii, dEq_bb, dEq_tw, dIn_tw, dIn_iT, dIn_iL, evE_chn, evE_meth, chnO_t, chnO_f, evL_meth, evL_mut, evL_chn, evS_unp, evS_fgt, isIntD, isBoolD, isTupleD, isListD, isSeqD, Bool.not_true, Bool.not_false, items1, itemsF, Dt.listOf, decide_true, decide_false]
    have : ¬ (xs.all (placeB n) = true ∧ (xs.map toI).Nodup) := fun z => by rw [(bad_empty n xs).mpr z] at he; cases he
    have : (xs.all (placeB n) && wayW ds (xs.map toI)) = false := by
      rw [Bool.eq_false_iff]
      intro z
      unfold wayW at z
      simp only [Bool.and_eq_true, decide_eq_true_eq] at z
      exact this ⟨z.1, z.2.1⟩
    rw [this]
  | true =>
    obtain ⟨hp, hn⟩ := (bad_empty n xs).mp he
    have ex := ints_of hp
    have hp2 := hp
    generalize xs.map toI = w at ex hn ⊢
    subst ex
    have hw : w.length ≤ 1000 := by simpa using hl
    have ll : ((iL w).length : Nat) = w.length := List.length_map ..
    have r2 : itR2 (.int 1) (.int ((iL w).length : Nat)) = some (rangeD 1 (w.length : Nat)) := by rw [ll]; exact it_r2 1 _ hw (by decide) (by decide)
    simp only [evS_seq, evS_skip, evS_frz, evS_set, evS_exp, evS_ret, evS_ite, evS_par, evS_putS, evS_putA, evS_for, evT_op, evT_call, evT_var, evT_bl, evT_and, evT_or, evT_not, evE_var, evE_non, evE_bl, evE_int, evE_str, evE_op, evE_and, evE_or, evE_not, evE_ite, evE_tup, evE_lst, fin0, fin1, fin2, fin3, evE_dsp, evE_call, evE_mut, evE_lc, evE_lc2, evE_dc, evL_nil, evL_pk, evL_lnt, evL_var, evL_non, evL_bl, evL_int, evL_str, evL_op, evL_tup, evL_lst, evL_call, evL_lc, evL_lc2, evL_dc, evL_ite, evL_and, evL_or, evL_not, bind_ok, ofE_ok, ofO_some, next_nx, next_ret, rdS_0, rdS_s, Option.isSome_some, if_true, Bool.false_eq_true, if_false, lnts, callO, back, endF, readAll, Option.map_some, Option.bind_some, List.set_cons_zero, List.set_cons_succ, asgT, Dt.truthy, oF_add, oF_sub, oF_neg, oF_eq, oF_ne, oF_lt, oF_gt, oF_le, oF_ge, oF_in, oF_nin, oF_isN, oF_notN, oF_idx, oF_slice, oF_sliceL, oF_sliceH, oF_rev, oF_len, oF_int, oF_min2, oF_max2, oF_list, oF_tuple, oF_sorted, oF_all, oF_any, oF_isInt, oF_isBool, oF_isTuple, oF_isList, oF_isStr, oF_range1, oF_range2, oF_count, oF_index, oF_index3, opR_f, dB_s, fAdd_ii, fSub_ii, fNeg_i, fLen_L, fLen_T, fLen_D, fInt_i, dLt_ii, dGt_ii, dLe_ii, fIdx_L, fIdx_T, fRev_L, fRev_T, fList_L, fList_T, fTuple_L, fTuple_T, fMin2_ii, fMax2_ii, fSlH_T, fSlL_T, fSlH_L, fSlL_L, at_0, at_1, dEq_ii, dEq_bb, dEq_tw, dIn_tw, dIn_iT, dIn_iL, evE_chn, evE_meth, chnO_t, chnO_f, evL_meth, evL_mut, evL_chn, evS_unp, evS_fgt, isIntD, isBoolD, isTupleD, isListD, isSeqD, Bool.not_true, Bool.not_false, items1, itemsF, Dt.listOf, decide_true, decide_false, r2]
    rw [run_pure (pK ds w) id (w0 := [some (.int n), some (tws ds), some (.tuple (iL w)), none, none]) rfl (by rw [sl24, rg_len]; omega) fun d hd => by
      obtain ⟨i, rfl, i1, i2⟩ := rg_mem hd
      have h0 : (i - 1).toNat < w.length := by omega
      have h1 : i.toNat < w.length := by omega
      have q0 : atD (iL w) (i - 1) = some (.int w[(i - 1).toNat]) := by
        rw [at_int (by omega) (by rw [ll]; omega), List.getElem_map]
      have q1 : atD (iL w) i = some (.int w[i.toNat]) := by
        rw [at_int (by omega) (by rw [ll]; omega), List.getElem_map]
      have pe : pK ds w (.int i) = !decide ((w[(i - 1).toNat], w[i.toNat]) ∈ ds) := by
        show (!decide ((w[(i - 1).toNat]?.getD 0, w[i.toNat]?.getD 0) ∈ ds)) = _
        rw [List.getElem?_eq_getElem h0, List.getElem?_eq_getElem h1]
        rfl
      exact ⟨[some (.int n), some (tws ds), some (.tuple (iL w)), none, some (.int i)], rfl, rfl, by simp only [evS_seq, evS_skip, evS_frz, evS_set, evS_exp, evS_ret, evS_ite, evS_par, evS_putS, evS_putA, evS_for, evT_op, evT_call, evT_var, evT_bl, evT_and, evT_or, evT_not, evE_var, evE_non, evE_bl, evE_int, evE_str, evE_op, evE_and, evE_or, evE_not, evE_ite, evE_tup, evE_lst, fin0, fin1, fin2, fin3, evE_dsp, evE_call, evE_mut, evE_lc, evE_lc2, evE_dc, evL_nil, evL_pk, evL_lnt, evL_var, evL_non, evL_bl, evL_int, evL_str, evL_op, evL_tup, evL_lst, evL_call, evL_lc, evL_lc2, evL_dc, evL_ite, evL_and, evL_or, evL_not, bind_ok, ofE_ok, ofO_some, next_nx, next_ret, rdS_0, rdS_s, Option.isSome_some, if_true, Bool.false_eq_true, if_false, lnts, callO, back, endF, readAll, Option.map_some, Option.bind_some, List.set_cons_zero, List.set_cons_succ, asgT, Dt.truthy, oF_add, oF_sub, oF_neg, oF_eq, oF_ne, oF_lt, oF_gt, oF_le, oF_ge, oF_in, oF_nin, oF_isN, oF_notN, oF_idx, oF_slice, oF_sliceL, oF_sliceH, oF_rev, oF_len, oF_int, oF_min2, oF_max2, oF_list, oF_tuple, oF_sorted, oF_all, oF_any, oF_isInt, oF_isBool, oF_isTuple, oF_isList, oF_isStr, oF_range1, oF_range2, oF_count, oF_index, oF_index3, opR_f, dB_s, fAdd_ii, fSub_ii, fNeg_i, fLen_L, fLen_T, fLen_D, fInt_i, dLt_ii, dGt_ii, dLe_ii, fIdx_L, fIdx_T, fRev_L, fRev_T, fList_L, fList_T, fTuple_L, fTuple_T, fMin2_ii, fMax2_ii, fSlH_T, fSlL_T, fSlH_L, fSlL_L, at_0, at_1, dEq_ii, dEq_bb, dEq_tw, dIn_tw, dIn_iT, dIn_iL, evE_chn, evE_meth, chnO_t, chnO_f, evL_meth, evL_mut, evL_chn, evS_unp, evS_fgt, isIntD, isBoolD, isTupleD, isListD, isSeqD, Bool.not_true, Bool.not_false, items1, itemsF, Dt.listOf, decide_true, decide_false, q0, q1, pe], fun _ => by simp only [evS_seq, evS_skip, evS_frz, evS_set, evS_exp, evS_ret, evS_ite, evS_par, evS_putS, evS_putA, evS_for, evT_op, evT_call, evT_var, evT_bl, evT_and, evT_or, evT_not, evE_var, evE_non, evE_bl, evE_int, evE_str, evE_op, evE_and, evE_or, evE_not, evE_ite, evE_tup, evE_lst, fin0, fin1, fin2, fin3, evE_dsp, evE_call, evE_mut, evE_lc, evE_lc2, evE_dc, evL_nil, evL_pk, evL_lnt, evL_var, evL_non, evL_bl, evL_int, evL_str, evL_op, evL_tup, evL_lst, evL_call, evL_lc, evL_lc2, evL_dc, evL_ite, evL_and, evL_or, evL_not, bind_ok, ofE_ok, ofO_some, next_nx, next_ret, rdS_0, rdS_s, Option.isSome_some, if_true, Bool.false_eq_true, if_false, lnts, callO, back, endF, readAll, Option.map_some, Option.bind_some, List.set_cons_zero, List.set_cons_succ, asgT, Dt.truthy, oF_add, oF_sub, oF_neg, oF_eq, oF_ne, oF_lt, oF_gt, oF_le, oF_ge, oF_in, oF_nin, oF_isN, oF_notN, oF_idx, oF_slice, oF_sliceL, oF_sliceH, oF_rev, oF_len, oF_int, oF_min2, oF_max2, oF_list, oF_tuple, oF_sorted, oF_all, oF_any, oF_isInt, oF_isBool, oF_isTuple, oF_isList, oF_isStr, oF_range1, oF_range2, oF_count, oF_index, oF_index3, opR_f, dB_s, fAdd_ii, fSub_ii, fNeg_i, fLen_L, fLen_T, fLen_D, fInt_i, dLt_ii, dGt_ii, dLe_ii, fIdx_L, fIdx_T, fRev_L, fRev_T, fList_L, fList_T, fTuple_L, fTuple_T, fMin2_ii, fMax2_ii, fSlH_T, fSlL_T, fSlH_L, fSlL_L, at_0, at_1, dEq_ii, dEq_bb, dEq_tw, dIn_tw, dIn_iT, dIn_iL, evE_chn, evE_meth, chnO_t, chnO_f, evL_meth, evL_mut, evL_chn, evS_unp, evS_fgt, isIntD, isBoolD, isTupleD, isListD, isSeqD, Bool.not_true, Bool.not_false, items1, itemsF, Dt.listOf, decide_true, decide_false, id]⟩]
    rw [List.map_id]
    have okr : okL ((rangeD 1 (w.length : Nat)).filter (pK ds w)) := okL_sub (okL_mem.mpr fun d hd => by
      obtain ⟨i, rfl, _⟩ := rg_mem hd
      exact okL_int) fun d hd => (List.mem_filter.mp hd).1
    unfold wayW
    simp only [evS_seq, evS_skip, evS_frz, evS_set, evS_exp, evS_ret, evS_ite, evS_par, evS_putS, evS_putA, evS_for, evT_op, evT_call, evT_var, evT_bl, evT_and, evT_or, evT_not, evE_var, evE_non, evE_bl, evE_int, evE_str, evE_op, evE_and, evE_or, evE_not, evE_ite, evE_tup, evE_lst, fin0, fin1, fin2, fin3, evE_dsp, evE_call, evE_mut, evE_lc, evE_lc2, evE_dc, evL_nil, evL_pk, evL_lnt, evL_var, evL_non, evL_bl, evL_int, evL_str, evL_op, evL_tup, evL_lst, evL_call, evL_lc, evL_lc2, evL_dc, evL_ite, evL_and, evL_or, evL_not, bind_ok, ofE_ok, ofO_some, next_nx, next_ret, rdS_0, rdS_s, Option.isSome_some, if_true, Bool.false_eq_true, if_false, lnts, callO, back, endF, readAll, Option.map_some, Option.bind_some, List.set_cons_zero, List.set_cons_succ, asgT, Dt.truthy, oF_add, oF_sub, oF_neg, oF_eq, oF_ne, oF_lt, oF_gt, oF_le, oF_ge, oF_in, oF_nin, oF_isN, oF_notN, oF_idx, oF_slice, oF_sliceL, oF_sliceH, oF_rev, oF_len, oF_int, oF_min2, oF_max2, oF_list, oF_tuple, oF_sorted, oF_all, oF_any, oF_isInt, oF_isBool, oF_isTuple, oF_isList, oF_isStr, oF_range1, oF_range2, oF_count, oF_index, oF_index3, opR_f, dB_s, fAdd_ii, fSub_ii, fNeg_i, fLen_L, fLen_T, fLen_D, fInt_i, dLt_ii, dGt_ii, dLe_ii, fIdx_L, fIdx_T, fRev_L, fRev_T, fList_L, fList_T, fTuple_L, fTuple_T, fMin2_ii, fMax2_ii, fSlH_T, fSlL_T, fSlH_L, fSlL_L, at_0, at_1, dEq_ii, dEq_bb, dEq_tw, dIn_tw, dIn_iT, dIn_iL, evE_chn, evE_meth, chnO_t, chnO_f, evL_meth, evL_mut, evL_chn, evS_unp, evS_fgt, isIntD, isBoolD, isTupleD, isListD, isSeqD, Bool.not_true, Bool.not_false, items1, itemsF, Dt.listOf, decide_true, decide_false, dEq_nil okr, pK_filter, hp2, hn, Bool.true_and]
end K14
end
section
set_option Elab.async false
set_option linter.all false
set_option maxRecDepth 100000
set_option maxHeartbeats 4000000
namespace K14
open PySem Dt
def Vok (v : D) : Prop := isTupleD v = false ∨ ∃ xs, v = .tuple xs ∧ okL xs ∧ xs.length ≤ 1000
theorem wayB_ints {n : Int} {ds : List (Int × Int)} {xs : List D} (h : wayB n ds xs = true) : ∃ x y t, xs = iL (x :: y :: t) := by
  unfold wayB at h
  simp only [Bool.and_eq_true, decide_eq_true_eq] at h
  have ex := ints_of h.2.1
  generalize xs.map toI = w at ex
  subst ex
  have h1 := h.1
  rw [List.length_map] at h1
  match w, h1 with
  | x :: y :: t, _ => exact ⟨x, y, t, rfl⟩
def lastI (w : List Int) : Int := w[w.length - 1]?.getD 0
theorem last_iL (x : Int) (t : List Int) : atD (iL (x :: t)) (-1) = some (.int (lastI (x :: t))) := by
  have hl : (iL (x :: t)).length = (x :: t).length := List.length_map ..
  unfold atD ixD lastI
  rw [if_neg (by decide), if_pos (by rw [hl, List.length_cons]; omega), Option.bind_some, hl, show ((-1 : Int) + ((x :: t).length : Nat)).toNat = (x :: t).length - 1 by omega, List.getElem?_map, List.getElem?_eq_getElem (by simp)]
  rfl
theorem run_same (n : Int) (ds : List (Int × Int)) (v : D) (hv : Vok v) : ∃ r : Bool, ∀ k : Nat, Dt.run P0 12 (k + 5) 10 [.int n, tws ds, v] = .ret (.bool r) [] ∧ Dt.run P0 12 (k + 5) 25 [.int n, tws ds, v] = .ret (.bool r) [] := by
  rcases hv with hv | ⟨xs, rfl, ok, hl⟩
  · exact ⟨false, fun k => ⟨by rw [run_is_run_in]; unfold b_is_run_in; simp only [evS_seq, evS_skip, evS_frz, evS_set, evS_exp, evS_ret, evS_ite, evS_par, evS_putS, evS_putA, evS_for, evT_op, evT_call, evT_var, evT_bl, evT_and, evT_or, evT_not, evE_var, evE_non, evE_bl, evE_int, evE_str, evE_op, evE_and, evE_or, evE_not, evE_ite, evE_tup, evE_lst, fin0, fin1, fin2, fin3, evE_dsp, evE_call, evE_mut, evE_lc, evE_lc2, evE_dc, evL_nil, evL_pk, evL_lnt, evL_var, evL_non, evL_bl, evL_int, evL_str, evL_op, evL_tup, evL_lst, evL_call, evL_lc, evL_lc2, evL_dc, evL_ite, evL_and, evL_or, evL_not, bind_ok, ofE_ok, ofO_some, next_nx, next_ret, rdS_0, rdS_s, Option.isSome_some, if_true, Bool.false_eq_true, if_false, lnts, callO, back, endF, readAll, Option.map_some, Option.bind_some, List.set_cons_zero, List.set_cons_succ, asgT, Dt.truthy, oF_add, oF_sub, oF_neg, oF_eq, oF_ne, oF_lt, oF_gt, oF_le, oF_ge, oF_in, oF_nin, oF_isN, oF_notN, oF_idx, oF_slice, oF_sliceL, oF_sliceH, oF_rev, oF_len, oF_int, oF_min2, oF_max2, oF_list, oF_tuple, oF_sorted, oF_all, oF_any, oF_isInt, oF_isBool, oF_isTuple, oF_isList, oF_isStr, oF_range1, oF_range2, oF_count, oF_index, oF_index3, opR_f, dB_s, fAdd_ii, fSub_ii, fNeg_i, fLen_L, fLen_T, fLen_D, fInt_i, dLt_ii, dGt_ii, dLe_ii, fIdx_L, fIdx_T, fRev_L, fRev_T, fList_L, fList_T, fTuple_L, fTuple_T, fMin2_ii, fMax2_ii, fSlH_T, fSlL_T, fSlH_L, fSlL_L, at_0, at_1, dEq_ii, dEq_bb, dEq_tw, dIn_tw, dIn_iT, dIn_iL, evE_chn, evE_meth, chnO_t, chnO_f, evL_meth, evL_mut, evL_chn, evS_unp, evS_fgt, isIntD, isBoolD, isTupleD, isListD, isSeqD, Bool.not_true, Bool.not_false, items1, itemsF, Dt.listOf, decide_true, decide_false, f9n _ _ _ _ hv], by rw [run__law_is_run]; unfold b__law_is_run; simp only [evS_seq, evS_skip, evS_frz, evS_set, evS_exp, evS_ret, evS_ite, evS_par, evS_putS, evS_putA, evS_for, evT_op, evT_call, evT_var, evT_bl, evT_and, evT_or, evT_not, evE_var, evE_non, evE_bl, evE_int, evE_str, evE_op, evE_and, evE_or, evE_not, evE_ite, evE_tup, evE_lst, fin0, fin1, fin2, fin3, evE_dsp, evE_call, evE_mut, evE_lc, evE_lc2, evE_dc, evL_nil, evL_pk, evL_lnt, evL_var, evL_non, evL_bl, evL_int, evL_str, evL_op, evL_tup, evL_lst, evL_call, evL_lc, evL_lc2, evL_dc, evL_ite, evL_and, evL_or, evL_not, bind_ok, ofE_ok, ofO_some, next_nx, next_ret, rdS_0, rdS_s, Option.isSome_some, if_true, Bool.false_eq_true, if_false, lnts, callO, back, endF, readAll, Option.map_some, Option.bind_some, List.set_cons_zero, List.set_cons_succ, asgT, Dt.truthy, oF_add, oF_sub, oF_neg, oF_eq, oF_ne, oF_lt, oF_gt, oF_le, oF_ge, oF_in, oF_nin, oF_isN, oF_notN, oF_idx, oF_slice, oF_sliceL, oF_sliceH, oF_rev, oF_len, oF_int, oF_min2, oF_max2, oF_list, oF_tuple, oF_sorted, oF_all, oF_any, oF_isInt, oF_isBool, oF_isTuple, oF_isList, oF_isStr, oF_range1, oF_range2, oF_count, oF_index, oF_index3, opR_f, dB_s, fAdd_ii, fSub_ii, fNeg_i, fLen_L, fLen_T, fLen_D, fInt_i, dLt_ii, dGt_ii, dLe_ii, fIdx_L, fIdx_T, fRev_L, fRev_T, fList_L, fList_T, fTuple_L, fTuple_T, fMin2_ii, fMax2_ii, fSlH_T, fSlL_T, fSlH_L, fSlL_L, at_0, at_1, dEq_ii, dEq_bb, dEq_tw, dIn_tw, dIn_iT, dIn_iL, evE_chn, evE_meth, chnO_t, chnO_f, evL_meth, evL_mut, evL_chn, evS_unp, evS_fgt, isIntD, isBoolD, isTupleD, isListD, isSeqD, Bool.not_true, Bool.not_false, items1, itemsF, Dt.listOf, decide_true, decide_false, f24n _ _ _ _ hv]⟩⟩
  · cases hb : wayB n ds xs with
    | false => exact ⟨false, fun k => ⟨by rw [run_is_run_in]; unfold b_is_run_in; simp only [evS_seq, evS_skip, evS_frz, evS_set, evS_exp, evS_ret, evS_ite, evS_par, evS_putS, evS_putA, evS_for, evT_op, evT_call, evT_var, evT_bl, evT_and, evT_or, evT_not, evE_var, evE_non, evE_bl, evE_int, evE_str, evE_op, evE_and, evE_or, evE_not, evE_ite, evE_tup, evE_lst, fin0, fin1, fin2, fin3, evE_dsp, evE_call, evE_mut, evE_lc, evE_lc2, evE_dc, evL_nil, evL_pk, evL_lnt, evL_var, evL_non, evL_bl, evL_int, evL_str, evL_op, evL_tup, evL_lst, evL_call, evL_lc, evL_lc2, evL_dc, evL_ite, evL_and, evL_or, evL_not, bind_ok, ofE_ok, ofO_some, next_nx, next_ret, rdS_0, rdS_s, Option.isSome_some, if_true, Bool.false_eq_true, if_false, lnts, callO, back, endF, readAll, Option.map_some, Option.bind_some, List.set_cons_zero, List.set_cons_succ, asgT, Dt.truthy, oF_add, oF_sub, oF_neg, oF_eq, oF_ne, oF_lt, oF_gt, oF_le, oF_ge, oF_in, oF_nin, oF_isN, oF_notN, oF_idx, oF_slice, oF_sliceL, oF_sliceH, oF_rev, oF_len, oF_int, oF_min2, oF_max2, oF_list, oF_tuple, oF_sorted, oF_all, oF_any, oF_isInt, oF_isBool, oF_isTuple, oF_isList, oF_isStr, oF_range1, oF_range2, oF_count, oF_index, oF_index3, opR_f, dB_s, fAdd_ii, fSub_ii, fNeg_i, fLen_L, fLen_T, fLen_D, fInt_i, dLt_ii, dGt_ii, dLe_ii, fIdx_L, fIdx_T, fRev_L, fRev_T, fList_L, fList_T, fTuple_L, fTuple_T, fMin2_ii, fMax2_ii, fSlH_T, fSlL_T, fSlH_L, fSlL_L, at_0, at_1, dEq_ii, dEq_bb, dEq_tw, dIn_tw, dIn_iT, dIn_iL, evE_chn, evE_meth, chnO_t, chnO_f, evL_meth, evL_mut, evL_chn, evS_unp, evS_fgt, isIntD, isBoolD, isTupleD, isListD, isSeqD, Bool.not_true, Bool.not_false, items1, itemsF, Dt.listOf, decide_true, decide_false, f9 k n ds xs hl, hb], by rw [run__law_is_run]; unfold b__law_is_run; simp only [evS_seq, evS_skip, evS_frz, evS_set, evS_exp, evS_ret, evS_ite, evS_par, evS_putS, evS_putA, evS_for, evT_op, evT_call, evT_var, evT_bl, evT_and, evT_or, evT_not, evE_var, evE_non, evE_bl, evE_int, evE_str, evE_op, evE_and, evE_or, evE_not, evE_ite, evE_tup, evE_lst, fin0, fin1, fin2, fin3, evE_dsp, evE_call, evE_mut, evE_lc, evE_lc2, evE_dc, evL_nil, evL_pk, evL_lnt, evL_var, evL_non, evL_bl, evL_int, evL_str, evL_op, evL_tup, evL_lst, evL_call, evL_lc, evL_lc2, evL_dc, evL_ite, evL_and, evL_or, evL_not, bind_ok, ofE_ok, ofO_some, next_nx, next_ret, rdS_0, rdS_s, Option.isSome_some, if_true, Bool.false_eq_true, if_false, lnts, callO, back, endF, readAll, Option.map_some, Option.bind_some, List.set_cons_zero, List.set_cons_succ, asgT, Dt.truthy, oF_add, oF_sub, oF_neg, oF_eq, oF_ne, oF_lt, oF_gt, oF_le, oF_ge, oF_in, oF_nin, oF_isN, oF_notN, oF_idx, oF_slice, oF_sliceL, oF_sliceH, oF_rev, oF_len, oF_int, oF_min2, oF_max2, oF_list, oF_tuple, oF_sorted, oF_all, oF_any, oF_isInt, oF_isBool, oF_isTuple, oF_isList, oF_isStr, oF_range1, oF_range2, oF_count, oF_index, oF_index3, opR_f, dB_s, fAdd_ii, fSub_ii, fNeg_i, fLen_L, fLen_T, fLen_D, fInt_i, dLt_ii, dGt_ii, dLe_ii, fIdx_L, fIdx_T, fRev_L, fRev_T, fList_L, fList_T, fTuple_L, fTuple_T, fMin2_ii, fMax2_ii, fSlH_T, fSlL_T, fSlH_L, fSlL_L, at_0, at_1, dEq_ii, dEq_bb, dEq_tw, dIn_tw, dIn_iT, dIn_iL, evE_chn, evE_meth, chnO_t, chnO_f, evL_meth, evL_mut, evL_chn, evS_unp, evS_fgt, isIntD, isBoolD, isTupleD, isListD, isSeqD, Bool.not_true, Bool.not_false, items1, itemsF, Dt.listOf, decide_true, decide_false, f24 (k + 2) n ds xs hl ok, hb]⟩⟩
    | true =>
      obtain ⟨x, y, t, rfl⟩ := wayB_ints hb
      have a0 : atD (iL (x :: y :: t)) 0 = some (.int x) := at_0
      have a1 := last_iL x (y :: t)
      cases h2 : decide ((2 : Int) < ((iL (x :: y :: t)).length : Nat)) with
      | false => exact ⟨false, fun k => ⟨by rw [run_is_run_in]; unfold b_is_run_in; simp only [evS_seq, evS_skip, evS_frz, evS_set, evS_exp, evS_ret, evS_ite, evS_par, evS_putS, evS_putA, evS_for, evT_op, evT_call, evT_var, evT_bl, evT_and, evT_or, evT_not, evE_var, evE_non, evE_bl, evE_int, evE_str, evE_op, evE_and, evE_or, evE_not, evE_ite, evE_tup, evE_lst, fin0, fin1, fin2, fin3, evE_dsp, evE_call, evE_mut, evE_lc, evE_lc2, evE_dc, evL_nil, evL_pk, evL_lnt, evL_var, evL_non, evL_bl, evL_int, evL_str, evL_op, evL_tup, evL_lst, evL_call, evL_lc, evL_lc2, evL_dc, evL_ite, evL_and, evL_or, evL_not, bind_ok, ofE_ok, ofO_some, next_nx, next_ret, rdS_0, rdS_s, Option.isSome_some, if_true, Bool.false_eq_true, if_false, lnts, callO, back, endF, readAll, Option.map_some, Option.bind_some, List.set_cons_zero, List.set_cons_succ, asgT, Dt.truthy, oF_add, oF_sub, oF_neg, oF_eq, oF_ne, oF_lt, oF_gt, oF_le, oF_ge, oF_in, oF_nin, oF_isN, oF_notN, oF_idx, oF_slice, oF_sliceL, oF_sliceH, oF_rev, oF_len, oF_int, oF_min2, oF_max2, oF_list, oF_tuple, oF_sorted, oF_all, oF_any, oF_isInt, oF_isBool, oF_isTuple, oF_isList, oF_isStr, oF_range1, oF_range2, oF_count, oF_index, oF_index3, opR_f, dB_s, fAdd_ii, fSub_ii, fNeg_i, fLen_L, fLen_T, fLen_D, fInt_i, dLt_ii, dGt_ii, dLe_ii, fIdx_L, fIdx_T, fRev_L, fRev_T, fList_L, fList_T, fTuple_L, fTuple_T, fMin2_ii, fMax2_ii, fSlH_T, fSlL_T, fSlH_L, fSlL_L, at_0, at_1, dEq_ii, dEq_bb, dEq_tw, dIn_tw, dIn_iT, dIn_iL, evE_chn, evE_meth, chnO_t, chnO_f, evL_meth, evL_mut, evL_chn, evS_unp, evS_fgt, isIntD, isBoolD, isTupleD, isListD, isSeqD, Bool.not_true, Bool.not_false, items1, itemsF, Dt.listOf, decide_true, decide_false, f9 k n ds _ hl, hb, h2], by rw [run__law_is_run]; unfold b__law_is_run; simp only [evS_seq, evS_skip, evS_frz, evS_set, evS_exp, evS_ret, evS_ite, evS_par, evS_putS, evS_putA, evS_for, evT_op, evT_call, evT_var, evT_bl, evT_and, evT_or, evT_not, evE_var, evE_non, evE_bl, evE_int, evE_str, evE_op, evE_and, evE_or, evE_not, evE_ite, evE_tup, evE_lst, fin0, fin1, fin2, fin3, evE_dsp, evE_call, evE_mut, evE_lc, evE_lc2, evE_dc, evL_nil, evL_pk, evL_lnt, evL_var, evL_non, evL_bl, evL_int, evL_str, evL_op, evL_tup, evL_lst, evL_call, evL_lc, evL_lc2, evL_dc, evL_ite, evL_and, evL_or, evL_not, bind_ok, ofE_ok, ofO_some, next_nx, next_ret, rdS_0, rdS_s, Option.isSome_some, if_true, Bool.false_eq_true, if_false, lnts, callO, back, endF, readAll, Option.map_some, Option.bind_some, List.set_cons_zero, List.set_cons_succ, asgT, Dt.truthy, oF_add, oF_sub, oF_neg, oF_eq, oF_ne, oF_lt, oF_gt, oF_le, oF_ge, oF_in, oF_nin, oF_isN, oF_notN, oF_idx, oF_slice, oF_sliceL, oF_sliceH, oF_rev, oF_len, oF_int, oF_min2, oF_max2, oF_list, oF_tuple, oF_sorted, oF_all, oF_any, oF_isInt, oF_isBool, oF_isTuple, oF_isList, oF_isStr, oF_range1, oF_range2, oF_count, oF_index, oF_index3, opR_f, dB_s, fAdd_ii, fSub_ii, fNeg_i, fLen_L, fLen_T, fLen_D, fInt_i, dLt_ii, dGt_ii, dLe_ii, fIdx_L, fIdx_T, fRev_L, fRev_T, fList_L, fList_T, fTuple_L, fTuple_T, fMin2_ii, fMax2_ii, fSlH_T, fSlL_T, fSlH_L, fSlL_L, at_0, at_1, dEq_ii, dEq_bb, dEq_tw, dIn_tw, dIn_iT, dIn_iL, evE_chn, evE_meth, chnO_t, chnO_f, evL_meth, evL_mut, evL_chn, evS_unp, evS_fgt, isIntD, isBoolD, isTupleD, isListD, isSeqD, Bool.not_true, Bool.not_false, items1, itemsF, Dt.listOf, decide_true, decide_false, f24 (k + 2) n ds _ hl ok, hb, h2]⟩⟩
      | true => exact ⟨decide ((lastI (x :: y :: t), x) ∈ ds), fun k => ⟨by rw [run_is_run_in]; unfold b_is_run_in; simp only [evS_seq, evS_skip, evS_frz, evS_set, evS_exp, evS_ret, evS_ite, evS_par, evS_putS, evS_putA, evS_for, evT_op, evT_call, evT_var, evT_bl, evT_and, evT_or, evT_not, evE_var, evE_non, evE_bl, evE_int, evE_str, evE_op, evE_and, evE_or, evE_not, evE_ite, evE_tup, evE_lst, fin0, fin1, fin2, fin3, evE_dsp, evE_call, evE_mut, evE_lc, evE_lc2, evE_dc, evL_nil, evL_pk, evL_lnt, evL_var, evL_non, evL_bl, evL_int, evL_str, evL_op, evL_tup, evL_lst, evL_call, evL_lc, evL_lc2, evL_dc, evL_ite, evL_and, evL_or, evL_not, bind_ok, ofE_ok, ofO_some, next_nx, next_ret, rdS_0, rdS_s, Option.isSome_some, if_true, Bool.false_eq_true, if_false, lnts, callO, back, endF, readAll, Option.map_some, Option.bind_some, List.set_cons_zero, List.set_cons_succ, asgT, Dt.truthy, oF_add, oF_sub, oF_neg, oF_eq, oF_ne, oF_lt, oF_gt, oF_le, oF_ge, oF_in, oF_nin, oF_isN, oF_notN, oF_idx, oF_slice, oF_sliceL, oF_sliceH, oF_rev, oF_len, oF_int, oF_min2, oF_max2, oF_list, oF_tuple, oF_sorted, oF_all, oF_any, oF_isInt, oF_isBool, oF_isTuple, oF_isList, oF_isStr, oF_range1, oF_range2, oF_count, oF_index, oF_index3, opR_f, dB_s, fAdd_ii, fSub_ii, fNeg_i, fLen_L, fLen_T, fLen_D, fInt_i, dLt_ii, dGt_ii, dLe_ii, fIdx_L, fIdx_T, fRev_L, fRev_T, fList_L, fList_T, fTuple_L, fTuple_T, fMin2_ii, fMax2_ii, fSlH_T, fSlL_T, fSlH_L, fSlL_L, at_0, at_1, dEq_ii, dEq_bb, dEq_tw, dIn_tw, dIn_iT, dIn_iL, evE_chn, evE_meth, chnO_t, chnO_f, evL_meth, evL_mut, evL_chn, evS_unp, evS_fgt, isIntD, isBoolD, isTupleD, isListD, isSeqD, Bool.not_true, Bool.not_false, items1, itemsF, Dt.listOf, decide_true, decide_false, f9 k n ds _ hl, hb, h2, a0, a1], by rw [run__law_is_run]; unfold b__law_is_run; simp only [evS_seq, evS_skip, evS_frz, evS_set, evS_exp, evS_ret, evS_ite, evS_par, evS_putS, evS_putA, evS_for, evT_op, evT_call, evT_var, evT_bl, evT_and, evT_or, evT_not, evE_var, evE_non, evE_bl, evE_int, evE_str, evE_op, evE_and, evE_or, evE_not, evE_ite, evE_tup, evE_lst, fin0, fin1, fin2, fin3, evE_dsp, evE_call, evE_mut, evE_lc, evE_lc2, evE_dc, evL_nil, evL_pk, evL_lnt, evL_var, evL_non, evL_bl, evL_int, evL_str, evL_op, evL_tup, evL_lst, evL_call, evL_lc, evL_lc2, evL_dc, evL_ite, evL_and, evL_or, evL_not, bind_ok, ofE_ok, ofO_some, next_nx, next_ret, rdS_0, rdS_s, Option.isSome_some, if_true, Bool.false_eq_true, if_false, lnts, callO, back, endF, readAll, Option.map_some, Option.bind_some, List.set_cons_zero, List.set_cons_succ, asgT, Dt.truthy, oF_add, oF_sub, oF_neg, oF_eq, oF_ne, oF_lt, oF_gt, oF_le, oF_ge, oF_in, oF_nin, oF_isN, oF_notN, oF_idx, oF_slice, oF_sliceL, oF_sliceH, oF_rev, oF_len, oF_int, oF_min2, oF_max2, oF_list, oF_tuple, oF_sorted, oF_all, oF_any, oF_isInt, oF_isBool, oF_isTuple, oF_isList, oF_isStr, oF_range1, oF_range2, oF_count, oF_index, oF_index3, opR_f, dB_s, fAdd_ii, fSub_ii, fNeg_i, fLen_L, fLen_T, fLen_D, fInt_i, dLt_ii, dGt_ii, dLe_ii, fIdx_L, fIdx_T, fRev_L, fRev_T, fList_L, fList_T, fTuple_L, fTuple_T, fMin2_ii, fMax2_ii, fSlH_T, fSlL_T, fSlH_L, fSlL_L, at_0, at_1, dEq_ii, dEq_bb, dEq_tw, dIn_tw, dIn_iT, dIn_iL, evE_chn, evE_meth, chnO_t, chnO_f, evL_meth, evL_mut, evL_chn, evS_unp, evS_fgt, isIntD, isBoolD, isTupleD, isListD, isSeqD, Bool.not_true, Bool.not_false, items1, itemsF, Dt.listOf, decide_true, decide_false, f24 (k + 2) n ds _ hl ok, hb, h2, a0, a1]⟩⟩
/-! gaps -/
def tieP (ps : List (Int × Int)) (one : Int) : D → Bool
  | .int two => decide (tie one two ∈ ps)
  | _ => false
def gapP (ps : List (Int × Int)) (w : List Int) : D → Bool
  | .tuple [.int k, .int one] => !((w.take k.toNat).all fun two => decide (tie one two ∈ ps))
  | _ => false
def gapB (ps : List (Int × Int)) (w : List Int) : Bool := (enD (iL w)).any (gapP ps w)
theorem f11 (k : Nat) (n : Int) (ps : List (Int × Int)) (w : List Int) (hl : w.length ≤ 1000) : Dt.run P0 12 (k + 2) 11 [.tuple [.int n, tws ps], tp w] = .ret (.bool (gapB ps w)) [] := by
  obtain ⟨q1, q2⟩ := for_find (f := forF ⟨Dt.run P0 12 (k + 1), 12, P0.sub⟩ (.cons (.v 2) (.cons (.v 3) .nil)) (.seq (.ite (.not (.op .all false (.cons (.lc [4] (.v 4) .seq (.cons (.op .sliceH false (.cons (.pk 1) (.cons (.pk 2) .nil))) .nil) (.bl true) .F (.op .isIn false (.cons (.call 6 (.cons (.var 3) (.cons (.var 4) .nil))) (.cons (.op .idx false (.cons (.pk 0) (.cons (.int 1) .nil))) .nil)))) .nil)))
    (.seq (.ret (.bl true)) .skip) .skip) .skip)) (fun σ => ∃ o2 o3 : Option D, σ = [some (.tuple [.int n, tws ps]), some (tp w), o2, o3, none]) (gapP ps w) (.bool true) (items := enD (iL w)) (σ := [some (.tuple [.int n, tws ps]), some (tp w), none, none, none]) ⟨none, none, rfl⟩ (by
      rintro d hd σ ⟨o2, o3, rfl⟩
      unfold enD at hd
      obtain ⟨⟨x, j⟩, hj, rfl⟩ := List.mem_map.mp hd
      obtain ⟨hj1, hj2⟩ := List.mem_zipIdx_iff_getElem?.mp hj |> fun h => (⟨(List.getElem?_eq_some_iff.mp h).1, h⟩ : j < (iL w).length ∧ (iL w)[j]? = some x)
      rw [List.length_map] at hj1
      rw [List.getElem?_map, List.getElem?_eq_getElem hj1] at hj2
      cases Option.some.inj hj2
      have c1 : cutD (iL w) none (some ((j : Nat) : Int)) = iL (w.take j) := by rw [cut_hi, ← List.map_take]
      have key : forF ⟨Dt.run P0 12 (k + 1), 12, P0.sub⟩ (.cons (.v 2) (.cons (.v 3) .nil)) (.seq (.ite (.not (.op .all false (.cons (.lc [4] (.v 4) .seq (.cons (.op .sliceH false (.cons (.pk 1) (.cons (.pk 2) .nil))) .nil) (.bl true) .F (.op .isIn false (.cons (.call 6 (.cons (.var 3) (.cons (.var 4) .nil))) (.cons (.op .idx false (.cons (.pk 0) (.cons (.int 1) .nil))) .nil)))) .nil)))
    (.seq (.ret (.bl true)) .skip) .skip) .skip) (.tuple [.int (j : Nat), .int w[j]]) [some (.tuple [.int n, tws ps]), some (tp w), o2, o3, none] = if gapP ps w (.tuple [.int (j : Nat), .int w[j]]) then .ret (.bool true) [some (.tuple [.int n, tws ps]), some (tp w), some (.int (j : Nat)), some (.int w[j]), none] else .nx [some (.tuple [.int n, tws ps]), some (tp w), some (.int (j : Nat)), some (.int w[j]), none] := by
        unfold forF
        simp only [evS_seq, evS_skip, evS_frz, evS_set, evS_exp, evS_ret, evS_ite, evS_par, evS_putS, evS_putA, evS_for, evT_op, evT_call, evT_var, evT_bl, evT_and, evT_or, evT_not, evE_var, evE_non, evE_bl, evE_int, evE_str, evE_op, evE_and, evE_or, evE_not, evE_ite, evE_tup, evE_lst, fin0, fin1, fin2, fin3, evE_dsp, evE_call, evE_mut, evE_lc, evE_lc2, evE_dc, evL_nil, evL_pk, evL_lnt, evL_var, evL_non, evL_bl, evL_int, evL_str, evL_op, evL_tup, evL_lst, evL_call, evL_lc, evL_lc2, evL_dc, evL_ite, evL_and, evL_or, evL_not, bind_ok, ofE_ok, ofO_some, next_nx, next_ret, rdS_0, rdS_s, Option.isSome_some, if_true, Bool.false_eq_true, if_false, lnts, callO, back, endF, readAll, Option.map_some, Option.bind_some, List.set_cons_zero, List.set_cons_succ, asgT, Dt.truthy, oF_add, oF_sub, oF_neg, oF_eq, oF_ne, oF_lt, oF_gt, oF_le, oF_ge, oF_in, oF_nin, oF_isN, oF_notN, oF_idx, oF_slice, oF_sliceL, oF_sliceH, oF_rev, oF_len, oF_int, oF_min2, oF_max2, oF_list, oF_tuple, oF_sorted, oF_all, oF_any, oF_isInt, oF_isBool, oF_isTuple, oF_isList, oF_isStr, oF_range1, oF_range2, oF_count, oF_index, oF_index3, opR_f, dB_s, fAdd_ii, fSub_ii, fNeg_i, fLen_L, fLen_T, fLen_D, fInt_i, dLt_ii, dGt_ii, dLe_ii, fIdx_L, fIdx_T, fRev_L, fRev_T, fList_L, fList_T, fTuple_L, fTuple_T, fMin2_ii, fMax2_ii, fSlH_T, fSlL_T, fSlH_L, fSlL_L, at_0, at_1, dEq_ii, dEq_bb, dEq_tw, dIn_tw, dIn_iT, dIn_iL, evE_chn, evE_meth, chnO_t, chnO_f, evL_meth, evL_mut, evL_chn, evS_unp, evS_fgt, isIntD, isBoolD, isTupleD, isListD, isSeqD, Bool.not_true, Bool.not_false, items1, itemsF, Dt.listOf, decide_true, decide_false, c1]
        rw [all_f (tieP ps w[j]) (iL (w.take j)) (w0 := [some (.tuple [.int n, tws ps]), some (tp w), some (.int (j : Nat)), some (.int w[j]), none]) rfl (by simp; omega) fun d hd => by
          obtain ⟨two, _, rfl⟩ := List.mem_map.mp hd
          exact ⟨[some (.tuple [.int n, tws ps]), some (tp w), some (.int (j : Nat)), some (.int w[j]), some (.int two)], rfl, rfl, by simp only [evS_seq, evS_skip, evS_frz, evS_set, evS_exp, evS_ret, evS_ite, evS_par, evS_putS, evS_putA, evS_for, evT_op, evT_call, evT_var, evT_bl, evT_and, evT_or, evT_not, evE_var, evE_non, evE_bl, evE_int, evE_str, evE_op, evE_and, evE_or, evE_not, evE_ite, evE_tup, evE_lst, fin0, fin1, fin2, fin3, evE_dsp, evE_call, evE_mut, evE_lc, evE_lc2, evE_dc, evL_nil, evL_pk, evL_lnt, evL_var, evL_non, evL_bl, evL_int, evL_str, evL_op, evL_tup, evL_lst, evL_call, evL_lc, evL_lc2, evL_dc, evL_ite, evL_and, evL_or, evL_not, bind_ok, ofE_ok, ofO_some, next_nx, next_ret, rdS_0, rdS_s, Option.isSome_some, if_true, Bool.false_eq_true, if_false, lnts, callO, back, endF, readAll, Option.map_some, Option.bind_some, List.set_cons_zero, List.set_cons_succ, asgT, Dt.truthy, oF_add, oF_sub, oF_neg, oF_eq, oF_ne, oF_lt, oF_gt, oF_le, oF_ge, oF_in, oF_nin, oF_isN, oF_notN, oF_idx, oF_slice, oF_sliceL, oF_sliceH, oF_rev, oF_len, oF_int, oF_min2, oF_max2, oF_list, oF_tuple, oF_sorted, oF_all, oF_any, oF_isInt, oF_isBool, oF_isTuple, oF_isList, oF_isStr, oF_range1, oF_range2, oF_count, oF_index, oF_index3, opR_f, dB_s, fAdd_ii, fSub_ii, fNeg_i, fLen_L, fLen_T, fLen_D, fInt_i, dLt_ii, dGt_ii, dLe_ii, fIdx_L, fIdx_T, fRev_L, fRev_T, fList_L, fList_T, fTuple_L, fTuple_T, fMin2_ii, fMax2_ii, fSlH_T, fSlL_T, fSlH_L, fSlL_L, at_0, at_1, dEq_ii, dEq_bb, dEq_tw, dIn_tw, dIn_iT, dIn_iL, evE_chn, evE_meth, chnO_t, chnO_f, evL_meth, evL_mut, evL_chn, evS_unp, evS_fgt, isIntD, isBoolD, isTupleD, isListD, isSeqD, Bool.not_true, Bool.not_false, items1, itemsF, Dt.listOf, decide_true, decide_false], by simp only [evS_seq, evS_skip, evS_frz, evS_set, evS_exp, evS_ret, evS_ite, evS_par, evS_putS, evS_putA, evS_for, evT_op, evT_call, evT_var, evT_bl, evT_and, evT_or, evT_not, evE_var, evE_non, evE_bl, evE_int, evE_str, evE_op, evE_and, evE_or, evE_not, evE_ite, evE_tup, evE_lst, fin0, fin1, fin2, fin3, evE_dsp, evE_call, evE_mut, evE_lc, evE_lc2, evE_dc, evL_nil, evL_pk, evL_lnt, evL_var, evL_non, evL_bl, evL_int, evL_str, evL_op, evL_tup, evL_lst, evL_call, evL_lc, evL_lc2, evL_dc, evL_ite, evL_and, evL_or, evL_not, bind_ok, ofE_ok, ofO_some, next_nx, next_ret, rdS_0, rdS_s, Option.isSome_some, if_true, Bool.false_eq_true, if_false, lnts, callO, back, endF, readAll, Option.map_some, Option.bind_some, List.set_cons_zero, List.set_cons_succ, asgT, Dt.truthy, oF_add, oF_sub, oF_neg, oF_eq, oF_ne, oF_lt, oF_gt, oF_le, oF_ge, oF_in, oF_nin, oF_isN, oF_notN, oF_idx, oF_slice, oF_sliceL, oF_sliceH, oF_rev, oF_len, oF_int, oF_min2, oF_max2, oF_list, oF_tuple, oF_sorted, oF_all, oF_any, oF_isInt, oF_isBool, oF_isTuple, oF_isList, oF_isStr, oF_range1, oF_range2, oF_count, oF_index, oF_index3, opR_f, dB_s, fAdd_ii, fSub_ii, fNeg_i, fLen_L, fLen_T, fLen_D, fInt_i, dLt_ii, dGt_ii, dLe_ii, fIdx_L, fIdx_T, fRev_L, fRev_T, fList_L, fList_T, fTuple_L, fTuple_T, fMin2_ii, fMax2_ii, fSlH_T, fSlL_T, fSlH_L, fSlL_L, at_0, at_1, dEq_ii, dEq_bb, dEq_tw, dIn_tw, dIn_iT, dIn_iL, evE_chn, evE_meth, chnO_t, chnO_f, evL_meth, evL_mut, evL_chn, evS_unp, evS_fgt, isIntD, isBoolD, isTupleD, isListD, isSeqD, Bool.not_true, Bool.not_false, items1, itemsF, Dt.listOf, decide_true, decide_false, f6 k, tieP]⟩]
        simp only [evS_seq, evS_skip, evS_frz, evS_set, evS_exp, evS_ret, evS_ite, evS_par, evS_putS, evS_putA, evS_for, evT_op, evT_call, evT_var, evT_bl, evT_and, evT_or, evT_not, evE_var, evE_non, evE_bl, evE_int, evE_str, evE_op, evE_and, evE_or, evE_not, evE_ite, evE_tup, evE_lst, fin0, fin1, fin2, fin3, evE_dsp, evE_call, evE_mut, evE_lc, evE_lc2, evE_dc, evL_nil, evL_pk, evL_lnt, evL_var, evL_non, evL_bl, evL_int, evL_str, evL_op, evL_tup, evL_lst, evL_call, evL_lc, evL_lc2, evL_dc, evL_ite, evL_and, evL_or, evL_not, bind_ok, ofE_ok, ofO_some, next_nx, next_ret, rdS_0, rdS_s, Option.isSome_some, if_true, Bool.false_eq_true, if_false, lnts, callO, back, endF, readAll, Option.map_some, Option.bind_some, List.set_cons_zero, List.set_cons_succ, asgT, Dt.truthy, oF_add, oF_sub, oF_neg, oF_eq, oF_ne, oF_lt, oF_gt, oF_le, oF_ge, oF_in, oF_nin, oF_isN, oF_notN, oF_idx, oF_slice, oF_sliceL, oF_sliceH, oF_rev, oF_len, oF_int, oF_min2, oF_max2, oF_list, oF_tuple, oF_sorted, oF_all, oF_any, oF_isInt, oF_isBool, oF_isTuple, oF_isList, oF_isStr, oF_range1, oF_range2, oF_count, oF_index, oF_index3, opR_f, dB_s, fAdd_ii, fSub_ii, fNeg_i, fLen_L, fLen_T, fLen_D, fInt_i, dLt_ii, dGt_ii, dLe_ii, fIdx_L, fIdx_T, fRev_L, fRev_T, fList_L, fList_T, fTuple_L, fTuple_T, fMin2_ii, fMax2_ii, fSlH_T, fSlL_T, fSlH_L, fSlL_L, at_0, at_1, dEq_ii, dEq_bb, dEq_tw, dIn_tw, dIn_iT, dIn_iL, evE_chn, evE_meth, chnO_t, chnO_f, evL_meth, evL_mut, evL_chn, evS_unp, evS_fgt, isIntD, isBoolD, isTupleD, isListD, isSeqD, Bool.not_true, Bool.not_false, items1, itemsF, Dt.listOf, decide_true, decide_false, fAll_map, List.all_map]
        have e : ((w.take j).all (tieP ps w[j] ∘ PyData.int)) = (w.take j).all fun two => decide (tie w[j] two ∈ ps) := rfl
        rw [e]
        have e2 : gapP ps w (.tuple [.int (j : Nat), .int w[j]]) = !((w.take j).all fun two => decide (tie w[j] two ∈ ps)) := by
          show (!((w.take ((j : Nat) : Int).toNat).all _)) = _
          rw [Int.toNat_natCast]
        rw [e2]
        cases (w.take j).all fun two => decide (tie w[j] two ∈ ps) <;> simp only [evS_seq, evS_skip, evS_frz, evS_set, evS_exp, evS_ret, evS_ite, evS_par, evS_putS, evS_putA, evS_for, evT_op, evT_call, evT_var, evT_bl, evT_and, evT_or, evT_not, evE_var, evE_non, evE_bl, evE_int, evE_str, evE_op, evE_and, evE_or, evE_not, evE_ite, evE_tup, evE_lst, fin0, fin1, fin2, fin3, evE_dsp, evE_call, evE_mut, evE_lc, evE_lc2, evE_dc, evL_nil, evL_pk, evL_lnt, evL_var, evL_non, evL_bl, evL_int, evL_str, evL_op, evL_tup, evL_lst, evL_call, evL_lc, evL_lc2, evL_dc, evL_ite, evL_and, evL_or, evL_not, bind_ok, ofE_ok, ofO_some, next_nx, next_ret, rdS_0, rdS_s, Option.isSome_some, if_true, Bool.false_eq_true, if_false, lnts, callO, back, endF, readAll, Option.map_some, Option.bind_some, List.set_cons_zero, List.set_cons_succ, asgT, Dt.truthy, oF_add, oF_sub, oF_neg, oF_eq, oF_ne, oF_lt, oF_gt, oF_le, oF_ge, oF_in, oF_nin, oF_isN, oF_notN, oF_idx, oF_slice, oF_sliceL, oF_sliceH, oF_rev, oF_len, oF_int, oF_min2, oF_max2, oF_list, oF_tuple, oF_sorted, oF_all, oF_any, oF_isInt, oF_isBool, oF_isTuple, oF_isList, oF_isStr, oF_range1, oF_range2, oF_count, oF_index, oF_index3, opR_f, dB_s, fAdd_ii, fSub_ii, fNeg_i, fLen_L, fLen_T, fLen_D, fInt_i, dLt_ii, dGt_ii, dLe_ii, fIdx_L, fIdx_T, fRev_L, fRev_T, fList_L, fList_T, fTuple_L, fTuple_T, fMin2_ii, fMax2_ii, fSlH_T, fSlL_T, fSlH_L, fSlL_L, at_0, at_1, dEq_ii, dEq_bb, dEq_tw, dIn_tw, dIn_iT, dIn_iL, evE_chn, evE_meth, chnO_t, chnO_f, evL_meth, evL_mut, evL_chn, evS_unp, evS_fgt, isIntD, isBoolD, isTupleD, isListD, isSeqD, Bool.not_true, Bool.not_false, items1, itemsF, Dt.listOf, decide_true, decide_false]
      rw [key]
      refine ⟨fun h => ⟨_, by rw [if_pos h]⟩, fun h => ⟨_, by rw [if_neg (by rw [h]; decide)], _, _, rfl⟩⟩)
  rw [run_has_gap]
  unfold b_has_gap
  simp only [evS_seq, evS_skip, evS_frz, evS_set, evS_exp, evS_ret, evS_ite, evS_par, evS_putS, evS_putA, evS_for, evT_op, evT_call, evT_var, evT_bl, evT_and, evT_or, evT_not, evE_var, evE_non, evE_bl, evE_int, evE_str, evE_op, evE_and, evE_or, evE_not, evE_ite, evE_tup, evE_lst, fin0, fin1, fin2, fin3, evE_dsp, evE_call, evE_mut, evE_lc, evE_lc2, evE_dc, evL_nil, evL_pk, evL_lnt, evL_var, evL_non, evL_bl, evL_int, evL_str, evL_op, evL_tup, evL_lst, evL_call, evL_lc, evL_lc2, evL_dc, evL_ite, evL_and, evL_or, evL_not, bind_ok, ofE_ok, ofO_some, next_nx, next_ret, rdS_0, rdS_s, Option.isSome_some, if_true, Bool.false_eq_true, if_false, lnts, callO, back, endF, readAll, Option.map_some, Option.bind_some, List.set_cons_zero, List.set_cons_succ, asgT, Dt.truthy, oF_add, oF_sub, oF_neg, oF_eq, oF_ne, oF_lt, oF_gt, oF_le, oF_ge, oF_in, oF_nin, oF_isN, oF_notN, oF_idx, oF_slice, oF_sliceL, oF_sliceH, oF_rev, oF_len, oF_int, oF_min2, oF_max2, oF_list, oF_tuple, oF_sorted, oF_all, oF_any, oF_isInt, oF_isBool, oF_isTuple, oF_isList, oF_isStr, oF_range1, oF_range2, oF_count, oF_index, oF_index3, opR_f, dB_s, fAdd_ii, fSub_ii, fNeg_i, fLen_L, fLen_T, fLen_D, fInt_i, dLt_ii, dGt_ii, dLe_ii, fIdx_L, fIdx_T, fRev_L, fRev_T, fList_L, fList_T, fTuple_L, fTuple_T, fMin2_ii, fMax2_ii, fSlH_T, fSlL_T, fSlH_L, fSlL_L, at_0, at_1, dEq_ii, dEq_bb, dEq_tw, dIn_tw, dIn_iT, dIn_iL, evE_chn, evE_meth, chnO_t, chnO_f, evL_meth, evL_mut, evL_chn, evS_unp, evS_fgt, isIntD, isBoolD, isTupleD, isListD, isSeqD, Bool.not_true, Bool.not_false, items1, itemsF, Dt.listOf, decide_true, decide_false, itEn]
  unfold gapB
  cases hg : (enD (iL w)).any (gapP ps w) with
  | true =>
    obtain ⟨σ', e⟩ := q1 hg
    rw [e]
    simp only [evS_seq, evS_skip, evS_frz, evS_set, evS_exp, evS_ret, evS_ite, evS_par, evS_putS, evS_putA, evS_for, evT_op, evT_call, evT_var, evT_bl, evT_and, evT_or, evT_not, evE_var, evE_non, evE_bl, evE_int, evE_str, evE_op, evE_and, evE_or, evE_not, evE_ite, evE_tup, evE_lst, fin0, fin1, fin2, fin3, evE_dsp, evE_call, evE_mut, evE_lc, evE_lc2, evE_dc, evL_nil, evL_pk, evL_lnt, evL_var, evL_non, evL_bl, evL_int, evL_str, evL_op, evL_tup, evL_lst, evL_call, evL_lc, evL_lc2, evL_dc, evL_ite, evL_and, evL_or, evL_not, bind_ok, ofE_ok, ofO_some, next_nx, next_ret, rdS_0, rdS_s, Option.isSome_some, if_true, Bool.false_eq_true, if_false, lnts, callO, back, endF, readAll, Option.map_some, Option.bind_some, List.set_cons_zero, List.set_cons_succ, asgT, Dt.truthy, oF_add, oF_sub, oF_neg, oF_eq, oF_ne, oF_lt, oF_gt, oF_le, oF_ge, oF_in, oF_nin, oF_isN, oF_notN, oF_idx, oF_slice, oF_sliceL, oF_sliceH, oF_rev, oF_len, oF_int, oF_min2, oF_max2, oF_list, oF_tuple, oF_sorted, oF_all, oF_any, oF_isInt, oF_isBool, oF_isTuple, oF_isList, oF_isStr, oF_range1, oF_range2, oF_count, oF_index, oF_index3, opR_f, dB_s, fAdd_ii, fSub_ii, fNeg_i, fLen_L, fLen_T, fLen_D, fInt_i, dLt_ii, dGt_ii, dLe_ii, fIdx_L, fIdx_T, fRev_L, fRev_T, fList_L, fList_T, fTuple_L, fTuple_T, fMin2_ii, fMax2_ii, fSlH_T, fSlL_T, fSlH_L, fSlL_L, at_0, at_1, dEq_ii, dEq_bb, dEq_tw, dIn_tw, dIn_iT, dIn_iL, evE_chn, evE_meth, chnO_t, chnO_f, evL_meth, evL_mut, evL_chn, evS_unp, evS_fgt, isIntD, isBoolD, isTupleD, isListD, isSeqD, Bool.not_true, Bool.not_false, items1, itemsF, Dt.listOf, decide_true, decide_false]
  | false =>
    obtain ⟨σ', e, o2, o3, rfl⟩ := q2 hg
    rw [e]
    simp only [evS_seq, evS_skip, evS_frz, evS_set, evS_exp, evS_ret, evS_ite, evS_par, evS_putS, evS_putA, evS_for, evT_op, evT_call, evT_var, evT_bl, evT_and, evT_or, evT_not, evE_var, evE_non, evE_bl, evE_int, evE_str, evE_op, evE_and, evE_or, evE_not, evE_ite, evE_tup, evE_lst, fin0, fin1, fin2, fin3, evE_dsp, evE_call, evE_mut, evE_lc, evE_lc2, evE_dc, evL_nil, evL_pk, evL_lnt, evL_var, evL_non, evL_bl, evL_int, evL_str, evL_op, evL_tup, evL_lst, evL_call, evL_lc, evL_lc2, evL_dc, evL_ite, evL_and, evL_or, evL_not, bind_ok, ofE_ok, ofO_some, next_nx, next_ret, rdS_0, rdS_s, Option.isSome_some, if_true, Bool.false_eq_true, if_false, lnts, callO, back, endF, readAll, Option.map_some, Option.bind_some, List.set_cons_zero, List.set_cons_succ, asgT, Dt.truthy, oF_add, oF_sub, oF_neg, oF_eq, oF_ne, oF_lt, oF_gt, oF_le, oF_ge, oF_in, oF_nin, oF_isN, oF_notN, oF_idx, oF_slice, oF_sliceL, oF_sliceH, oF_rev, oF_len, oF_int, oF_min2, oF_max2, oF_list, oF_tuple, oF_sorted, oF_all, oF_any, oF_isInt, oF_isBool, oF_isTuple, oF_isList, oF_isStr, oF_range1, oF_range2, oF_count, oF_index, oF_index3, opR_f, dB_s, fAdd_ii, fSub_ii, fNeg_i, fLen_L, fLen_T, fLen_D, fInt_i, dLt_ii, dGt_ii, dLe_ii, fIdx_L, fIdx_T, fRev_L, fRev_T, fList_L, fList_T, fTuple_L, fTuple_T, fMin2_ii, fMax2_ii, fSlH_T, fSlL_T, fSlH_L, fSlL_L, at_0, at_1, dEq_ii, dEq_bb, dEq_tw, dIn_tw, dIn_iT, dIn_iL, evE_chn, evE_meth, chnO_t, chnO_f, evL_meth, evL_mut, evL_chn, evS_unp, evS_fgt, isIntD, isBoolD, isTupleD, isListD, isSeqD, Bool.not_true, Bool.not_false, items1, itemsF, Dt.listOf, decide_true, decide_false]
end K14
end
section
set_option Elab.async false
set_option linter.all false
set_option maxRecDepth 100000
set_option maxHeartbeats 4000000
namespace K14
open PySem Dt
def gapJ (ps : List (Int × Int)) (w : List Int) (i : Int) : D → Bool
  | .int j => !decide (tie (w[i.toNat]?.getD 0) (w[j.toNat]?.getD 0) ∈ ps)
  | _ => false
def gapI (ps : List (Int × Int)) (w : List Int) : D → Bool
  | .int i => (rangeD 0 i).any (gapJ ps w i)
  | _ => false
abbrev bJ : S := (.seq (.ite (.not (.call 22 (.cons (.var 0) (.cons (.op .idx false (.cons (.pk 1) (.cons (.pk 2) .nil))) (.cons (.op .idx false (.cons (.pk 1) (.cons (.pk 3) .nil))) .nil)))))
  (.seq (.ret (.bl true)) .skip) .skip) .skip)
abbrev bI : S := (.seq (.for (.v 3) .range1 (.cons (.var 2) .nil) bJ) .skip)
theorem at_iL {w : List Int} {i : Int} (h0 : 0 ≤ i) (h : i < w.length) : atD (iL w) i = some (.int (w[i.toNat]?.getD 0)) := by
  have hl : (iL w).length = w.length := List.length_map ..
  rw [at_int h0 (by rw [hl]; exact h), List.getElem_map, List.getElem?_eq_getElem (by omega)]
  rfl
theorem s_gapJ (k : Nat) (n : Int) (ps : List (Int × Int)) (w : List Int) (i j : Int) (o3 : Option D) (h0 : 0 ≤ i) (h : i < w.length) (j0 : 0 ≤ j) (j1 : j < i) :
    forF ⟨Dt.run P0 12 (k + 1), 12, P0.sub⟩ (.v 3) bJ (.int j) [some (.tuple [.int n, tws ps]), some (tp w), some (.int i), o3] = if gapJ ps w i (.int j) then .ret (.bool true) [some (.tuple [.int n, tws ps]), some (tp w), some (.int i), some (.int j)] else .nx [some (.tuple [.int n, tws ps]), some (tp w), some (.int i), some (.int j)] := by
  have aj : atD (iL w) j = some (.int (w[j.toNat]?.getD 0)) := at_iL j0 (by omega)
  unfold forF
  simp only [evS_seq, evS_skip, evS_frz, evS_set, evS_exp, evS_ret, evS_ite, evS_par, evS_putS, evS_putA, evS_for, evT_op, evT_call, evT_var, evT_bl, evT_and, evT_or, evT_not, evE_var, evE_non, evE_bl, evE_int, evE_str, evE_op, evE_and, evE_or, evE_not, evE_ite, evE_tup, evE_lst, fin0, fin1, fin2, fin3, evE_dsp, evE_call, evE_mut, evE_lc, evE_lc2, evE_dc, evL_nil, evL_pk, evL_lnt, evL_var, evL_non, evL_bl, evL_int, evL_str, evL_op, evL_tup, evL_lst, evL_call, evL_lc, evL_lc2, evL_dc, evL_ite, evL_and, evL_or, evL_not, bind_ok, ofE_ok, ofO_some, next_nx, next_ret, rdS_0, rdS_s, Option.isSome_some, if_true, Bool.false_eq_true, if_false, lnts, callO, back, endF, readAll, Option.map_some, Option.bind_some, List.set_cons_zero, List.set_cons_succ, asgT, Dt.truthy, oF_add, oF_sub, oF_neg, oF_eq, oF_ne, oF_lt, oF_gt, oF_le, oF_ge, oF_in, oF_nin, oF_isN, oF_notN, oF_idx, oF_slice, oF_sliceL, oF_sliceH, oF_rev, oF_len, oF_int, oF_min2, oF_max2, oF_list, oF_tuple, oF_sorted, oF_all, oF_any, oF_isInt, oF_isBool, oF_isTuple, oF_isList, oF_isStr, oF_range1, oF_range2, oF_count, oF_index, oF_index3, opR_f, dB_s, fAdd_ii, fSub_ii, fNeg_i, fLen_L, fLen_T, fLen_D, fInt_i, dLt_ii, dGt_ii, dLe_ii, fIdx_L, fIdx_T, fRev_L, fRev_T, fList_L, fList_T, fTuple_L, fTuple_T, fMin2_ii, fMax2_ii, fSlH_T, fSlL_T, fSlH_L, fSlL_L, at_0, at_1, dEq_ii, dEq_bb, dEq_tw, dIn_tw, dIn_iT, dIn_iL, evE_chn, evE_meth, chnO_t, chnO_f, evL_meth, evL_mut, evL_chn, evS_unp, evS_fgt, isIntD, isBoolD, isTupleD, isListD, isSeqD, Bool.not_true, Bool.not_false, items1, itemsF, Dt.listOf, decide_true, decide_false, at_iL h0 h, aj, f22 k]
  have e : gapJ ps w i (.int j) = !decide (tie (w[i.toNat]?.getD 0) (w[j.toNat]?.getD 0) ∈ ps) := rfl
  rw [e]
  cases decide (tie (w[i.toNat]?.getD 0) (w[j.toNat]?.getD 0) ∈ ps) <;> simp only [evS_seq, evS_skip, evS_frz, evS_set, evS_exp, evS_ret, evS_ite, evS_par, evS_putS, evS_putA, evS_for, evT_op, evT_call, evT_var, evT_bl, evT_and, evT_or, evT_not, evE_var, evE_non, evE_bl, evE_int, evE_str, evE_op, evE_and, evE_or, evE_not, evE_ite, evE_tup, evE_lst, fin0, fin1, fin2, fin3, evE_dsp, evE_call, evE_mut, evE_lc, evE_lc2, evE_dc, evL_nil, evL_pk, evL_lnt, evL_var, evL_non, evL_bl, evL_int, evL_str, evL_op, evL_tup, evL_lst, evL_call, evL_lc, evL_lc2, evL_dc, evL_ite, evL_and, evL_or, evL_not, bind_ok, ofE_ok, ofO_some, next_nx, next_ret, rdS_0, rdS_s, Option.isSome_some, if_true, Bool.false_eq_true, if_false, lnts, callO, back, endF, readAll, Option.map_some, Option.bind_some, List.set_cons_zero, List.set_cons_succ, asgT, Dt.truthy, oF_add, oF_sub, oF_neg, oF_eq, oF_ne, oF_lt, oF_gt, oF_le, oF_ge, oF_in, oF_nin, oF_isN, oF_notN, oF_idx, oF_slice, oF_sliceL, oF_sliceH, oF_rev, oF_len, oF_int, oF_min2, oF_max2, oF_list, oF_tuple, oF_sorted, oF_all, oF_any, oF_isInt, oF_isBool, oF_isTuple, oF_isList, oF_isStr, oF_range1, oF_range2, oF_count, oF_index, oF_index3, opR_f, dB_s, fAdd_ii, fSub_ii, fNeg_i, fLen_L, fLen_T, fLen_D, fInt_i, dLt_ii, dGt_ii, dLe_ii, fIdx_L, fIdx_T, fRev_L, fRev_T, fList_L, fList_T, fTuple_L, fTuple_T, fMin2_ii, fMax2_ii, fSlH_T, fSlL_T, fSlH_L, fSlL_L, at_0, at_1, dEq_ii, dEq_bb, dEq_tw, dIn_tw, dIn_iT, dIn_iL, evE_chn, evE_meth, chnO_t, chnO_f, evL_meth, evL_mut, evL_chn, evS_unp, evS_fgt, isIntD, isBoolD, isTupleD, isListD, isSeqD, Bool.not_true, Bool.not_false, items1, itemsF, Dt.listOf, decide_true, decide_false]
theorem s_gapI (k : Nat) (n : Int) (ps : List (Int × Int)) (w : List Int) (i : Int) (o2 o3 : Option D) (h0 : 0 ≤ i) (h : i < w.length) (hl : w.length ≤ 1000) :
    (gapI ps w (.int i) = true → ∃ σ', forF ⟨Dt.run P0 12 (k + 1), 12, P0.sub⟩ (.v 2) bI (.int i) [some (.tuple [.int n, tws ps]), some (tp w), o2, o3] = .ret (.bool true) σ') ∧
    (gapI ps w (.int i) = false → ∃ o3', forF ⟨Dt.run P0 12 (k + 1), 12, P0.sub⟩ (.v 2) bI (.int i) [some (.tuple [.int n, tws ps]), some (tp w), o2, o3] = .nx [some (.tuple [.int n, tws ps]), some (tp w), some (.int i), o3']) := by
  obtain ⟨q1, q2⟩ := for_find (f := forF ⟨Dt.run P0 12 (k + 1), 12, P0.sub⟩ (.v 3) bJ) (fun σ => ∃ o3 : Option D, σ = [some (.tuple [.int n, tws ps]), some (tp w), some (.int i), o3]) (gapJ ps w i) (.bool true) (items := rangeD 0 i) (σ := [some (.tuple [.int n, tws ps]), some (tp w), some (.int i), o3]) ⟨o3, rfl⟩ (by
    rintro d hd σ ⟨o3, rfl⟩
    obtain ⟨j, rfl, j0, j1⟩ := rg_mem hd
    rw [s_gapJ k n ps w i j o3 h0 h j0 j1]
    exact ⟨fun h => ⟨_, by rw [if_pos h]⟩, fun h => ⟨_, by rw [if_neg (by rw [h]; decide)], _, rfl⟩⟩)
  have r1 : itR1 (.int i) = some (rangeD 0 i) := by
    have := it_r1 i.toNat (by omega)
    rw [show ((i.toNat : Nat) : Int) = i by omega] at this
    exact this
  refine ⟨fun hg => ?_, fun hg => ?_⟩
  · obtain ⟨σ', e⟩ := q1 hg
    refine ⟨σ', ?_⟩
    unfold forF
    simp only [evS_seq, evS_skip, evS_frz, evS_set, evS_exp, evS_ret, evS_ite, evS_par, evS_putS, evS_putA, evS_for, evT_op, evT_call, evT_var, evT_bl, evT_and, evT_or, evT_not, evE_var, evE_non, evE_bl, evE_int, evE_str, evE_op, evE_and, evE_or, evE_not, evE_ite, evE_tup, evE_lst, fin0, fin1, fin2, fin3, evE_dsp, evE_call, evE_mut, evE_lc, evE_lc2, evE_dc, evL_nil, evL_pk, evL_lnt, evL_var, evL_non, evL_bl, evL_int, evL_str, evL_op, evL_tup, evL_lst, evL_call, evL_lc, evL_lc2, evL_dc, evL_ite, evL_and, evL_or, evL_not, bind_ok, ofE_ok, ofO_some, next_nx, next_ret, rdS_0, rdS_s, Option.isSome_some, if_true, Bool.false_eq_true, if_false, lnts, callO, back, endF, readAll, Option.map_some, Option.bind_some, List.set_cons_zero, List.set_cons_succ, asgT, Dt.truthy, oF_add, oF_sub, oF_neg, oF_eq, oF_ne, oF_lt, oF_gt, oF_le, oF_ge, oF_in, oF_nin, oF_isN, oF_notN, oF_idx, oF_slice, oF_sliceL, oF_sliceH, oF_rev, oF_len, oF_int, oF_min2, oF_max2, oF_list, oF_tuple, oF_sorted, oF_all, oF_any, oF_isInt, oF_isBool, oF_isTuple, oF_isList, oF_isStr, oF_range1, oF_range2, oF_count, oF_index, oF_index3, opR_f, dB_s, fAdd_ii, fSub_ii, fNeg_i, fLen_L, fLen_T, fLen_D, fInt_i, dLt_ii, dGt_ii, dLe_ii, fIdx_L, fIdx_T, fRev_L, fRev_T, fList_L, fList_T, fTuple_L, fTuple_T, fMin2_ii, fMax2_ii, fSlH_T, fSlL_T, fSlH_L, fSlL_L, at_0, at_1, dEq_ii, dEq_bb, dEq_tw, dIn_tw, dIn_iT, dIn_iL, evE_chn, evE_meth, chnO_t, chnO_f, evL_meth, evL_mut, evL_chn, evS_unp, evS_fgt, isIntD, isBoolD, isTupleD, isListD, isSeqD, Bool.not_true, Bool.not_false, items1, itemsF, Dt.listOf, decide_true, decide_false, r1]
    rw [e]
    simp only [evS_seq, evS_skip, evS_frz, evS_set, evS_exp, evS_ret, evS_ite, evS_par, evS_putS, evS_putA, evS_for, evT_op, evT_call, evT_var, evT_bl, evT_and, evT_or, evT_not, evE_var, evE_non, evE_bl, evE_int, evE_str, evE_op, evE_and, evE_or, evE_not, evE_ite, evE_tup, evE_lst, fin0, fin1, fin2, fin3, evE_dsp, evE_call, evE_mut, evE_lc, evE_lc2, evE_dc, evL_nil, evL_pk, evL_lnt, evL_var, evL_non, evL_bl, evL_int, evL_str, evL_op, evL_tup, evL_lst, evL_call, evL_lc, evL_lc2, evL_dc, evL_ite, evL_and, evL_or, evL_not, bind_ok, ofE_ok, ofO_some, next_nx, next_ret, rdS_0, rdS_s, Option.isSome_some, if_true, Bool.false_eq_true, if_false, lnts, callO, back, endF, readAll, Option.map_some, Option.bind_some, List.set_cons_zero, List.set_cons_succ, asgT, Dt.truthy, oF_add, oF_sub, oF_neg, oF_eq, oF_ne, oF_lt, oF_gt, oF_le, oF_ge, oF_in, oF_nin, oF_isN, oF_notN, oF_idx, oF_slice, oF_sliceL, oF_sliceH, oF_rev, oF_len, oF_int, oF_min2, oF_max2, oF_list, oF_tuple, oF_sorted, oF_all, oF_any, oF_isInt, oF_isBool, oF_isTuple, oF_isList, oF_isStr, oF_range1, oF_range2, oF_count, oF_index, oF_index3, opR_f, dB_s, fAdd_ii, fSub_ii, fNeg_i, fLen_L, fLen_T, fLen_D, fInt_i, dLt_ii, dGt_ii, dLe_ii, fIdx_L, fIdx_T, fRev_L, fRev_T, fList_L, fList_T, fTuple_L, fTuple_T, fMin2_ii, fMax2_ii, fSlH_T, fSlL_T, fSlH_L, fSlL_L, at_0, at_1, dEq_ii, dEq_bb, dEq_tw, dIn_tw, dIn_iT, dIn_iL, evE_chn, evE_meth, chnO_t, chnO_f, evL_meth, evL_mut, evL_chn, evS_unp, evS_fgt, isIntD, isBoolD, isTupleD, isListD, isSeqD, Bool.not_true, Bool.not_false, items1, itemsF, Dt.listOf, decide_true, decide_false]
  · obtain ⟨σ', e, o3', rfl⟩ := q2 hg
    refine ⟨o3', ?_⟩
    unfold forF
    simp only [evS_seq, evS_skip, evS_frz, evS_set, evS_exp, evS_ret, evS_ite, evS_par, evS_putS, evS_putA, evS_for, evT_op, evT_call, evT_var, evT_bl, evT_and, evT_or, evT_not, evE_var, evE_non, evE_bl, evE_int, evE_str, evE_op, evE_and, evE_or, evE_not, evE_ite, evE_tup, evE_lst, fin0, fin1, fin2, fin3, evE_dsp, evE_call, evE_mut, evE_lc, evE_lc2, evE_dc, evL_nil, evL_pk, evL_lnt, evL_var, evL_non, evL_bl, evL_int, evL_str, evL_op, evL_tup, evL_lst, evL_call, evL_lc, evL_lc2, evL_dc, evL_ite, evL_and, evL_or, evL_not, bind_ok, ofE_ok, ofO_some, next_nx, next_ret, rdS_0, rdS_s, Option.isSome_some, if_true, Bool.false_eq_true, if_false, lnts, callO, back, endF, readAll, Option.map_some, Option.bind_some, List.set_cons_zero, List.set_cons_succ, asgT, Dt.truthy, oF_add, oF_sub, oF_neg, oF_eq, oF_ne, oF_lt, oF_gt, oF_le, oF_ge, oF_in, oF_nin, oF_isN, oF_notN, oF_idx, oF_slice, oF_sliceL, oF_sliceH, oF_rev, oF_len, oF_int, oF_min2, oF_max2, oF_list, oF_tuple, oF_sorted, oF_all, oF_any, oF_isInt, oF_isBool, oF_isTuple, oF_isList, oF_isStr, oF_range1, oF_range2, oF_count, oF_index, oF_index3, opR_f, dB_s, fAdd_ii, fSub_ii, fNeg_i, fLen_L, fLen_T, fLen_D, fInt_i, dLt_ii, dGt_ii, dLe_ii, fIdx_L, fIdx_T, fRev_L, fRev_T, fList_L, fList_T, fTuple_L, fTuple_T, fMin2_ii, fMax2_ii, fSlH_T, fSlL_T, fSlH_L, fSlL_L, at_0, at_1, dEq_ii, dEq_bb, dEq_tw, dIn_tw, dIn_iT, dIn_iL, evE_chn, evE_meth, chnO_t, chnO_f, evL_meth, evL_mut, evL_chn, evS_unp, evS_fgt, isIntD, isBoolD, isTupleD, isListD, isSeqD, Bool.not_true, Bool.not_false, items1, itemsF, Dt.listOf, decide_true, decide_false, r1]
    rw [e]
    simp only [evS_seq, evS_skip, evS_frz, evS_set, evS_exp, evS_ret, evS_ite, evS_par, evS_putS, evS_putA, evS_for, evT_op, evT_call, evT_var, evT_bl, evT_and, evT_or, evT_not, evE_var, evE_non, evE_bl, evE_int, evE_str, evE_op, evE_and, evE_or, evE_not, evE_ite, evE_tup, evE_lst, fin0, fin1, fin2, fin3, evE_dsp, evE_call, evE_mut, evE_lc, evE_lc2, evE_dc, evL_nil, evL_pk, evL_lnt, evL_var, evL_non, evL_bl, evL_int, evL_str, evL_op, evL_tup, evL_lst, evL_call, evL_lc, evL_lc2, evL_dc, evL_ite, evL_and, evL_or, evL_not, bind_ok, ofE_ok, ofO_some, next_nx, next_ret, rdS_0, rdS_s, Option.isSome_some, if_true, Bool.false_eq_true, if_false, lnts, callO, back, endF, readAll, Option.map_some, Option.bind_some, List.set_cons_zero, List.set_cons_succ, asgT, Dt.truthy, oF_add, oF_sub, oF_neg, oF_eq, oF_ne, oF_lt, oF_gt, oF_le, oF_ge, oF_in, oF_nin, oF_isN, oF_notN, oF_idx, oF_slice, oF_sliceL, oF_sliceH, oF_rev, oF_len, oF_int, oF_min2, oF_max2, oF_list, oF_tuple, oF_sorted, oF_all, oF_any, oF_isInt, oF_isBool, oF_isTuple, oF_isList, oF_isStr, oF_range1, oF_range2, oF_count, oF_index, oF_index3, opR_f, dB_s, fAdd_ii, fSub_ii, fNeg_i, fLen_L, fLen_T, fLen_D, fInt_i, dLt_ii, dGt_ii, dLe_ii, fIdx_L, fIdx_T, fRev_L, fRev_T, fList_L, fList_T, fTuple_L, fTuple_T, fMin2_ii, fMax2_ii, fSlH_T, fSlL_T, fSlH_L, fSlL_L, at_0, at_1, dEq_ii, dEq_bb, dEq_tw, dIn_tw, dIn_iT, dIn_iL, evE_chn, evE_meth, chnO_t, chnO_f, evL_meth, evL_mut, evL_chn, evS_unp, evS_fgt, isIntD, isBoolD, isTupleD, isListD, isSeqD, Bool.not_true, Bool.not_false, items1, itemsF, Dt.listOf, decide_true, decide_false]
theorem gap_eq (ps : List (Int × Int)) (w : List Int) : (rangeD 0 (w.length : Nat)).any (gapI ps w) = gapB ps w := by
  unfold gapB
  rw [Bool.eq_iff_iff, List.any_eq_true, List.any_eq_true]
  constructor
  · rintro ⟨d, hd, h⟩
    obtain ⟨i, rfl, i0, i1⟩ := rg_mem hd
    have h : (rangeD 0 i).any (gapJ ps w i) = true := h
    obtain ⟨d, hd, h⟩ := List.any_eq_true.mp h
    obtain ⟨j, rfl, j0, j1⟩ := rg_mem hd
    have h : (!decide (tie (w[i.toNat]?.getD 0) (w[j.toNat]?.getD 0) ∈ ps)) = true := h
    refine ⟨.tuple [.int (i.toNat : Nat), .int (w[i.toNat]?.getD 0)], ?_, ?_⟩
    · unfold enD
      refine List.mem_map.mpr ⟨(.int (w[i.toNat]?.getD 0), i.toNat), List.mem_zipIdx_iff_getElem?.mpr ?_, rfl⟩
      rw [List.getElem?_map, List.getElem?_eq_getElem (by omega)]
      rfl
    · show (!((w.take (((i.toNat : Nat) : Int)).toNat).all fun two => decide (tie (w[i.toNat]?.getD 0) two ∈ ps))) = true
      rw [Int.toNat_natCast, Bool.not_eq_true', Bool.eq_false_iff]
      intro z
      rw [List.all_eq_true] at z
      have := z (w[j.toNat]?.getD 0) (by
        rw [List.getElem?_eq_getElem (by omega)]
        refine List.mem_iff_getElem.mpr ⟨j.toNat, by rw [List.length_take]; omega, ?_⟩
        rw [List.getElem_take]
        rfl)
      rw [this] at h
      cases h
  · rintro ⟨d, hd, h⟩
    unfold enD at hd
    obtain ⟨⟨x, j⟩, hj, rfl⟩ := List.mem_map.mp hd
    have hj := List.mem_zipIdx_iff_getElem?.mp hj
    have hj1 : j < w.length := by
      have := (List.getElem?_eq_some_iff.mp hj).1
      rwa [List.length_map] at this
    rw [List.getElem?_map, List.getElem?_eq_getElem hj1] at hj
    cases Option.some.inj hj
    have h : (!((w.take ((j : Nat) : Int).toNat).all fun two => decide (tie w[j] two ∈ ps))) = true := h
    rw [Int.toNat_natCast, Bool.not_eq_true', Bool.eq_false_iff] at h
    have : ∃ two ∈ w.take j, tie w[j] two ∉ ps := by
      apply Classical.byContradiction
      intro z
      apply h
      rw [List.all_eq_true]
      intro two ht
      apply Classical.byContradiction
      intro q
      exact z ⟨two, ht, by simpa using q⟩
    obtain ⟨two, ht, hn⟩ := this
    obtain ⟨m, hm, rfl⟩ := List.mem_iff_getElem.mp ht
    rw [List.length_take] at hm
    rw [List.getElem_take] at hn
    refine ⟨.int (j : Nat), ?_, ?_⟩
    · unfold rangeD
      exact List.mem_map.mpr ⟨j, List.mem_range.mpr (by omega), by simp⟩
    · show (rangeD 0 ((j : Nat) : Int)).any (gapJ ps w (j : Nat)) = true
      refine List.any_eq_true.mpr ⟨.int (m : Nat), ?_, ?_⟩
      · unfold rangeD
        exact List.mem_map.mpr ⟨m, List.mem_range.mpr (by omega), by simp⟩
      · show (!decide (tie (w[((j : Nat) : Int).toNat]?.getD 0) (w[((m : Nat) : Int).toNat]?.getD 0) ∈ ps)) = true
        rw [Int.toNat_natCast, Int.toNat_natCast, List.getElem?_eq_getElem hj1, List.getElem?_eq_getElem (by omega)]
        simpa using hn
theorem f26 (k : Nat) (n : Int) (ps : List (Int × Int)) (w : List Int) (hl : w.length ≤ 1000) : Dt.run P0 12 (k + 2) 26 [.tuple [.int n, tws ps], tp w] = .ret (.bool (gapB ps w)) [] := by
  obtain ⟨q1, q2⟩ := for_find (f := forF ⟨Dt.run P0 12 (k + 1), 12, P0.sub⟩ (.v 2) bI) (fun σ => ∃ o2 o3 : Option D, σ = [some (.tuple [.int n, tws ps]), some (tp w), o2, o3]) (gapI ps w) (.bool true) (items := rangeD 0 (w.length : Nat)) (σ := [some (.tuple [.int n, tws ps]), some (tp w), none, none]) ⟨none, none, rfl⟩ (by
    rintro d hd σ ⟨o2, o3, rfl⟩
    obtain ⟨i, rfl, i0, i1⟩ := rg_mem hd
    obtain ⟨s1, s2⟩ := s_gapI k n ps w i o2 o3 i0 i1 hl
    refine ⟨s1, fun h => ?_⟩
    obtain ⟨o3', e⟩ := s2 h
    exact ⟨_, e, _, _, rfl⟩)
  have hll : (iL w).length = w.length := List.length_map ..
  rw [run__law_has_gap]
  unfold b__law_has_gap
  rw [gap_eq] at q1 q2
  simp only [evS_seq, evS_skip, evS_frz, evS_set, evS_exp, evS_ret, evS_ite, evS_par, evS_putS, evS_putA, evS_for, evT_op, evT_call, evT_var, evT_bl, evT_and, evT_or, evT_not, evE_var, evE_non, evE_bl, evE_int, evE_str, evE_op, evE_and, evE_or, evE_not, evE_ite, evE_tup, evE_lst, fin0, fin1, fin2, fin3, evE_dsp, evE_call, evE_mut, evE_lc, evE_lc2, evE_dc, evL_nil, evL_pk, evL_lnt, evL_var, evL_non, evL_bl, evL_int, evL_str, evL_op, evL_tup, evL_lst, evL_call, evL_lc, evL_lc2, evL_dc, evL_ite, evL_and, evL_or, evL_not, bind_ok, ofE_ok, ofO_some, next_nx, next_ret, rdS_0, rdS_s, Option.isSome_some, if_true, Bool.false_eq_true, if_false, lnts, callO, back, endF, readAll, Option.map_some, Option.bind_some, List.set_cons_zero, List.set_cons_succ, asgT, Dt.truthy, oF_add, oF_sub, oF_neg, oF_eq, oF_ne, oF_lt, oF_gt, oF_le, oF_ge, oF_in, oF_nin, oF_isN, oF_notN, oF_idx, oF_slice, oF_sliceL, oF_sliceH, oF_rev, oF_len, oF_int, oF_min2, oF_max2, oF_list, oF_tuple, oF_sorted, oF_all, oF_any, oF_isInt, oF_isBool, oF_isTuple, oF_isList, oF_isStr, oF_range1, oF_range2, oF_count, oF_index, oF_index3, opR_f, dB_s, fAdd_ii, fSub_ii, fNeg_i, fLen_L, fLen_T, fLen_D, fInt_i, dLt_ii, dGt_ii, dLe_ii, fIdx_L, fIdx_T, fRev_L, fRev_T, fList_L, fList_T, fTuple_L, fTuple_T, fMin2_ii, fMax2_ii, fSlH_T, fSlL_T, fSlH_L, fSlL_L, at_0, at_1, dEq_ii, dEq_bb, dEq_tw, dIn_tw, dIn_iT, dIn_iL, evE_chn, evE_meth, chnO_t, chnO_f, evL_meth, evL_mut, evL_chn, evS_unp, evS_fgt, isIntD, isBoolD, isTupleD, isListD, isSeqD, Bool.not_true, Bool.not_false, items1, itemsF, Dt.listOf, decide_true, decide_false, hll, it_r1 w.length hl]
  cases hg : gapB ps w with
  | true =>
    obtain ⟨σ', e⟩ := q1 hg
    rw [e]
    simp only [evS_seq, evS_skip, evS_frz, evS_set, evS_exp, evS_ret, evS_ite, evS_par, evS_putS, evS_putA, evS_for, evT_op, evT_call, evT_var, evT_bl, evT_and, evT_or, evT_not, evE_var, evE_non, evE_bl, evE_int, evE_str, evE_op, evE_and, evE_or, evE_not, evE_ite, evE_tup, evE_lst, fin0, fin1, fin2, fin3, evE_dsp, evE_call, evE_mut, evE_lc, evE_lc2, evE_dc, evL_nil, evL_pk, evL_lnt, evL_var, evL_non, evL_bl, evL_int, evL_str, evL_op, evL_tup, evL_lst, evL_call, evL_lc, evL_lc2, evL_dc, evL_ite, evL_and, evL_or, evL_not, bind_ok, ofE_ok, ofO_some, next_nx, next_ret, rdS_0, rdS_s, Option.isSome_some, if_true, Bool.false_eq_true, if_false, lnts, callO, back, endF, readAll, Option.map_some, Option.bind_some, List.set_cons_zero, List.set_cons_succ, asgT, Dt.truthy, oF_add, oF_sub, oF_neg, oF_eq, oF_ne, oF_lt, oF_gt, oF_le, oF_ge, oF_in, oF_nin, oF_isN, oF_notN, oF_idx, oF_slice, oF_sliceL, oF_sliceH, oF_rev, oF_len, oF_int, oF_min2, oF_max2, oF_list, oF_tuple, oF_sorted, oF_all, oF_any, oF_isInt, oF_isBool, oF_isTuple, oF_isList, oF_isStr, oF_range1, oF_range2, oF_count, oF_index, oF_index3, opR_f, dB_s, fAdd_ii, fSub_ii, fNeg_i, fLen_L, fLen_T, fLen_D, fInt_i, dLt_ii, dGt_ii, dLe_ii, fIdx_L, fIdx_T, fRev_L, fRev_T, fList_L, fList_T, fTuple_L, fTuple_T, fMin2_ii, fMax2_ii, fSlH_T, fSlL_T, fSlH_L, fSlL_L, at_0, at_1, dEq_ii, dEq_bb, dEq_tw, dIn_tw, dIn_iT, dIn_iL, evE_chn, evE_meth, chnO_t, chnO_f, evL_meth, evL_mut, evL_chn, evS_unp, evS_fgt, isIntD, isBoolD, isTupleD, isListD, isSeqD, Bool.not_true, Bool.not_false, items1, itemsF, Dt.listOf, decide_true, decide_false]
  | false =>
    obtain ⟨σ', e, o2, o3, rfl⟩ := q2 hg
    rw [e]
    simp only [evS_seq, evS_skip, evS_frz, evS_set, evS_exp, evS_ret, evS_ite, evS_par, evS_putS, evS_putA, evS_for, evT_op, evT_call, evT_var, evT_bl, evT_and, evT_or, evT_not, evE_var, evE_non, evE_bl, evE_int, evE_str, evE_op, evE_and, evE_or, evE_not, evE_ite, evE_tup, evE_lst, fin0, fin1, fin2, fin3, evE_dsp, evE_call, evE_mut, evE_lc, evE_lc2, evE_dc, evL_nil, evL_pk, evL_lnt, evL_var, evL_non, evL_bl, evL_int, evL_str, evL_op, evL_tup, evL_lst, evL_call, evL_lc, evL_lc2, evL_dc, evL_ite, evL_and, evL_or, evL_not, bind_ok, ofE_ok, ofO_some, next_nx, next_ret, rdS_0, rdS_s, Option.isSome_some, if_true, Bool.false_eq_true, if_false, lnts, callO, back, endF, readAll, Option.map_some, Option.bind_some, List.set_cons_zero, List.set_cons_succ, asgT, Dt.truthy, oF_add, oF_sub, oF_neg, oF_eq, oF_ne, oF_lt, oF_gt, oF_le, oF_ge, oF_in, oF_nin, oF_isN, oF_notN, oF_idx, oF_slice, oF_sliceL, oF_sliceH, oF_rev, oF_len, oF_int, oF_min2, oF_max2, oF_list, oF_tuple, oF_sorted, oF_all, oF_any, oF_isInt, oF_isBool, oF_isTuple, oF_isList, oF_isStr, oF_range1, oF_range2, oF_count, oF_index, oF_index3, opR_f, dB_s, fAdd_ii, fSub_ii, fNeg_i, fLen_L, fLen_T, fLen_D, fInt_i, dLt_ii, dGt_ii, dLe_ii, fIdx_L, fIdx_T, fRev_L, fRev_T, fList_L, fList_T, fTuple_L, fTuple_T, fMin2_ii, fMax2_ii, fSlH_T, fSlL_T, fSlH_L, fSlL_L, at_0, at_1, dEq_ii, dEq_bb, dEq_tw, dIn_tw, dIn_iT, dIn_iL, evE_chn, evE_meth, chnO_t, chnO_f, evL_meth, evL_mut, evL_chn, evS_unp, evS_fgt, isIntD, isBoolD, isTupleD, isListD, isSeqD, Bool.not_true, Bool.not_false, items1, itemsF, Dt.listOf, decide_true, decide_false]
theorem short_same (n : Int) (ps ds : List (Int × Int)) (v : D) (hv : Vok v) : ∃ r : Bool, ∀ k : Nat, Dt.run P0 12 (k + 5) 12 [.tuple [.int n, tws ps], tws ds, v] = .ret (.bool r) [] ∧ Dt.run P0 12 (k + 5) 27 [.tuple [.int n, tws ps], tws ds, v] = .ret (.bool r) [] := by
  rcases hv with hv | ⟨xs, rfl, ok, hl⟩
  · exact ⟨false, fun k => ⟨by rw [run_is_shortcut_in]; unfold b_is_shortcut_in; simp only [evS_seq, evS_skip, evS_frz, evS_set, evS_exp, evS_ret, evS_ite, evS_par, evS_putS, evS_putA, evS_for, evT_op, evT_call, evT_var, evT_bl, evT_and, evT_or, evT_not, evE_var, evE_non, evE_bl, evE_int, evE_str, evE_op, evE_and, evE_or, evE_not, evE_ite, evE_tup, evE_lst, fin0, fin1, fin2, fin3, evE_dsp, evE_call, evE_mut, evE_lc, evE_lc2, evE_dc, evL_nil, evL_pk, evL_lnt, evL_var, evL_non, evL_bl, evL_int, evL_str, evL_op, evL_tup, evL_lst, evL_call, evL_lc, evL_lc2, evL_dc, evL_ite, evL_and, evL_or, evL_not, bind_ok, ofE_ok, ofO_some, next_nx, next_ret, rdS_0, rdS_s, Option.isSome_some, if_true, Bool.false_eq_true, if_false, lnts, callO, back, endF, readAll, Option.map_some, Option.bind_some, List.set_cons_zero, List.set_cons_succ, asgT, Dt.truthy, oF_add, oF_sub, oF_neg, oF_eq, oF_ne, oF_lt, oF_gt, oF_le, oF_ge, oF_in, oF_nin, oF_isN, oF_notN, oF_idx, oF_slice, oF_sliceL, oF_sliceH, oF_rev, oF_len, oF_int, oF_min2, oF_max2, oF_list, oF_tuple, oF_sorted, oF_all, oF_any, oF_isInt, oF_isBool, oF_isTuple, oF_isList, oF_isStr, oF_range1, oF_range2, oF_count, oF_index, oF_index3, opR_f, dB_s, fAdd_ii, fSub_ii, fNeg_i, fLen_L, fLen_T, fLen_D, fInt_i, dLt_ii, dGt_ii, dLe_ii, fIdx_L, fIdx_T, fRev_L, fRev_T, fList_L, fList_T, fTuple_L, fTuple_T, fMin2_ii, fMax2_ii, fSlH_T, fSlL_T, fSlH_L, fSlL_L, at_0, at_1, dEq_ii, dEq_bb, dEq_tw, dIn_tw, dIn_iT, dIn_iL, evE_chn, evE_meth, chnO_t, chnO_f, evL_meth, evL_mut, evL_chn, evS_unp, evS_fgt, isIntD, isBoolD, isTupleD, isListD, isSeqD, Bool.not_true, Bool.not_false, items1, itemsF, Dt.listOf, decide_true, decide_false, f9n _ _ _ _ hv], by rw [run__law_is_shortcut]; unfold b__law_is_shortcut; simp only [evS_seq, evS_skip, evS_frz, evS_set, evS_exp, evS_ret, evS_ite, evS_par, evS_putS, evS_putA, evS_for, evT_op, evT_call, evT_var, evT_bl, evT_and, evT_or, evT_not, evE_var, evE_non, evE_bl, evE_int, evE_str, evE_op, evE_and, evE_or, evE_not, evE_ite, evE_tup, evE_lst, fin0, fin1, fin2, fin3, evE_dsp, evE_call, evE_mut, evE_lc, evE_lc2, evE_dc, evL_nil, evL_pk, evL_lnt, evL_var, evL_non, evL_bl, evL_int, evL_str, evL_op, evL_tup, evL_lst, evL_call, evL_lc, evL_lc2, evL_dc, evL_ite, evL_and, evL_or, evL_not, bind_ok, ofE_ok, ofO_some, next_nx, next_ret, rdS_0, rdS_s, Option.isSome_some, if_true, Bool.false_eq_true, if_false, lnts, callO, back, endF, readAll, Option.map_some, Option.bind_some, List.set_cons_zero, List.set_cons_succ, asgT, Dt.truthy, oF_add, oF_sub, oF_neg, oF_eq, oF_ne, oF_lt, oF_gt, oF_le, oF_ge, oF_in, oF_nin, oF_isN, oF_notN, oF_idx, oF_slice, oF_sliceL, oF_sliceH, oF_rev, oF_len, oF_int, oF_min2, oF_max2, oF_list, oF_tuple, oF_sorted, oF_all, oF_any, oF_isInt, oF_isBool, oF_isTuple, oF_isList, oF_isStr, oF_range1, oF_range2, oF_count, oF_index, oF_index3, opR_f, dB_s, fAdd_ii, fSub_ii, fNeg_i, fLen_L, fLen_T, fLen_D, fInt_i, dLt_ii, dGt_ii, dLe_ii, fIdx_L, fIdx_T, fRev_L, fRev_T, fList_L, fList_T, fTuple_L, fTuple_T, fMin2_ii, fMax2_ii, fSlH_T, fSlL_T, fSlH_L, fSlL_L, at_0, at_1, dEq_ii, dEq_bb, dEq_tw, dIn_tw, dIn_iT, dIn_iL, evE_chn, evE_meth, chnO_t, chnO_f, evL_meth, evL_mut, evL_chn, evS_unp, evS_fgt, isIntD, isBoolD, isTupleD, isListD, isSeqD, Bool.not_true, Bool.not_false, items1, itemsF, Dt.listOf, decide_true, decide_false, f24n _ _ _ _ hv]⟩⟩
  · cases hb : wayB n ds xs with
    | false => exact ⟨false, fun k => ⟨by rw [run_is_shortcut_in]; unfold b_is_shortcut_in; simp only [evS_seq, evS_skip, evS_frz, evS_set, evS_exp, evS_ret, evS_ite, evS_par, evS_putS, evS_putA, evS_for, evT_op, evT_call, evT_var, evT_bl, evT_and, evT_or, evT_not, evE_var, evE_non, evE_bl, evE_int, evE_str, evE_op, evE_and, evE_or, evE_not, evE_ite, evE_tup, evE_lst, fin0, fin1, fin2, fin3, evE_dsp, evE_call, evE_mut, evE_lc, evE_lc2, evE_dc, evL_nil, evL_pk, evL_lnt, evL_var, evL_non, evL_bl, evL_int, evL_str, evL_op, evL_tup, evL_lst, evL_call, evL_lc, evL_lc2, evL_dc, evL_ite, evL_and, evL_or, evL_not, bind_ok, ofE_ok, ofO_some, next_nx, next_ret, rdS_0, rdS_s, Option.isSome_some, if_true, Bool.false_eq_true, if_false, lnts, callO, back, endF, readAll, Option.map_some, Option.bind_some, List.set_cons_zero, List.set_cons_succ, asgT, Dt.truthy, oF_add, oF_sub, oF_neg, oF_eq, oF_ne, oF_lt, oF_gt, oF_le, oF_ge, oF_in, oF_nin, oF_isN, oF_notN, oF_idx, oF_slice, oF_sliceL, oF_sliceH, oF_rev, oF_len, oF_int, oF_min2, oF_max2, oF_list, oF_tuple, oF_sorted, oF_all, oF_any, oF_isInt, oF_isBool, oF_isTuple, oF_isList, oF_isStr, oF_range1, oF_range2, oF_count, oF_index, oF_index3, opR_f, dB_s, fAdd_ii, fSub_ii, fNeg_i, fLen_L, fLen_T, fLen_D, fInt_i, dLt_ii, dGt_ii, dLe_ii, fIdx_L, fIdx_T, fRev_L, fRev_T, fList_L, fList_T, fTuple_L, fTuple_T, fMin2_ii, fMax2_ii, fSlH_T, fSlL_T, fSlH_L, fSlL_L, at_0, at_1, dEq_ii, dEq_bb, dEq_tw, dIn_tw, dIn_iT, dIn_iL, evE_chn, evE_meth, chnO_t, chnO_f, evL_meth, evL_mut, evL_chn, evS_unp, evS_fgt, isIntD, isBoolD, isTupleD, isListD, isSeqD, Bool.not_true, Bool.not_false, items1, itemsF, Dt.listOf, decide_true, decide_false, f9 k n ds xs hl, hb], by rw [run__law_is_shortcut]; unfold b__law_is_shortcut; simp only [evS_seq, evS_skip, evS_frz, evS_set, evS_exp, evS_ret, evS_ite, evS_par, evS_putS, evS_putA, evS_for, evT_op, evT_call, evT_var, evT_bl, evT_and, evT_or, evT_not, evE_var, evE_non, evE_bl, evE_int, evE_str, evE_op, evE_and, evE_or, evE_not, evE_ite, evE_tup, evE_lst, fin0, fin1, fin2, fin3, evE_dsp, evE_call, evE_mut, evE_lc, evE_lc2, evE_dc, evL_nil, evL_pk, evL_lnt, evL_var, evL_non, evL_bl, evL_int, evL_str, evL_op, evL_tup, evL_lst, evL_call, evL_lc, evL_lc2, evL_dc, evL_ite, evL_and, evL_or, evL_not, bind_ok, ofE_ok, ofO_some, next_nx, next_ret, rdS_0, rdS_s, Option.isSome_some, if_true, Bool.false_eq_true, if_false, lnts, callO, back, endF, readAll, Option.map_some, Option.bind_some, List.set_cons_zero, List.set_cons_succ, asgT, Dt.truthy, oF_add, oF_sub, oF_neg, oF_eq, oF_ne, oF_lt, oF_gt, oF_le, oF_ge, oF_in, oF_nin, oF_isN, oF_notN, oF_idx, oF_slice, oF_sliceL, oF_sliceH, oF_rev, oF_len, oF_int, oF_min2, oF_max2, oF_list, oF_tuple, oF_sorted, oF_all, oF_any, oF_isInt, oF_isBool, oF_isTuple, oF_isList, oF_isStr, oF_range1, oF_range2, oF_count, oF_index, oF_index3, opR_f, dB_s, fAdd_ii, fSub_ii, fNeg_i, fLen_L, fLen_T, fLen_D, fInt_i, dLt_ii, dGt_ii, dLe_ii, fIdx_L, fIdx_T, fRev_L, fRev_T, fList_L, fList_T, fTuple_L, fTuple_T, fMin2_ii, fMax2_ii, fSlH_T, fSlL_T, fSlH_L, fSlL_L, at_0, at_1, dEq_ii, dEq_bb, dEq_tw, dIn_tw, dIn_iT, dIn_iL, evE_chn, evE_meth, chnO_t, chnO_f, evL_meth, evL_mut, evL_chn, evS_unp, evS_fgt, isIntD, isBoolD, isTupleD, isListD, isSeqD, Bool.not_true, Bool.not_false, items1, itemsF, Dt.listOf, decide_true, decide_false, f24 (k + 2) n ds xs hl ok, hb]⟩⟩
    | true =>
      obtain ⟨x, y, t, rfl⟩ := wayB_ints hb
      have a0 : atD (iL (x :: y :: t)) 0 = some (.int x) := at_0
      have a1 := last_iL x (y :: t)
      have hw : (x :: y :: t).length ≤ 1000 := by rwa [List.length_map] at hl
      cases h2 : decide (((iL (x :: y :: t)).length : Nat) < (4 : Int)) with
      | true => exact ⟨false, fun k => ⟨by rw [run_is_shortcut_in]; unfold b_is_shortcut_in; simp only [evS_seq, evS_skip, evS_frz, evS_set, evS_exp, evS_ret, evS_ite, evS_par, evS_putS, evS_putA, evS_for, evT_op, evT_call, evT_var, evT_bl, evT_and, evT_or, evT_not, evE_var, evE_non, evE_bl, evE_int, evE_str, evE_op, evE_and, evE_or, evE_not, evE_ite, evE_tup, evE_lst, fin0, fin1, fin2, fin3, evE_dsp, evE_call, evE_mut, evE_lc, evE_lc2, evE_dc, evL_nil, evL_pk, evL_lnt, evL_var, evL_non, evL_bl, evL_int, evL_str, evL_op, evL_tup, evL_lst, evL_call, evL_lc, evL_lc2, evL_dc, evL_ite, evL_and, evL_or, evL_not, bind_ok, ofE_ok, ofO_some, next_nx, next_ret, rdS_0, rdS_s, Option.isSome_some, if_true, Bool.false_eq_true, if_false, lnts, callO, back, endF, readAll, Option.map_some, Option.bind_some, List.set_cons_zero, List.set_cons_succ, asgT, Dt.truthy, oF_add, oF_sub, oF_neg, oF_eq, oF_ne, oF_lt, oF_gt, oF_le, oF_ge, oF_in, oF_nin, oF_isN, oF_notN, oF_idx, oF_slice, oF_sliceL, oF_sliceH, oF_rev, oF_len, oF_int, oF_min2, oF_max2, oF_list, oF_tuple, oF_sorted, oF_all, oF_any, oF_isInt, oF_isBool, oF_isTuple, oF_isList, oF_isStr, oF_range1, oF_range2, oF_count, oF_index, oF_index3, opR_f, dB_s, fAdd_ii, fSub_ii, fNeg_i, fLen_L, fLen_T, fLen_D, fInt_i, dLt_ii, dGt_ii, dLe_ii, fIdx_L, fIdx_T, fRev_L, fRev_T, fList_L, fList_T, fTuple_L, fTuple_T, fMin2_ii, fMax2_ii, fSlH_T, fSlL_T, fSlH_L, fSlL_L, at_0, at_1, dEq_ii, dEq_bb, dEq_tw, dIn_tw, dIn_iT, dIn_iL, evE_chn, evE_meth, chnO_t, chnO_f, evL_meth, evL_mut, evL_chn, evS_unp, evS_fgt, isIntD, isBoolD, isTupleD, isListD, isSeqD, Bool.not_true, Bool.not_false, items1, itemsF, Dt.listOf, decide_true, decide_false, f9 k n ds _ hl, hb, h2], by rw [run__law_is_shortcut]; unfold b__law_is_shortcut; simp only [evS_seq, evS_skip, evS_frz, evS_set, evS_exp, evS_ret, evS_ite, evS_par, evS_putS, evS_putA, evS_for, evT_op, evT_call, evT_var, evT_bl, evT_and, evT_or, evT_not, evE_var, evE_non, evE_bl, evE_int, evE_str, evE_op, evE_and, evE_or, evE_not, evE_ite, evE_tup, evE_lst, fin0, fin1, fin2, fin3, evE_dsp, evE_call, evE_mut, evE_lc, evE_lc2, evE_dc, evL_nil, evL_pk, evL_lnt, evL_var, evL_non, evL_bl, evL_int, evL_str, evL_op, evL_tup, evL_lst, evL_call, evL_lc, evL_lc2, evL_dc, evL_ite, evL_and, evL_or, evL_not, bind_ok, ofE_ok, ofO_some, next_nx, next_ret, rdS_0, rdS_s, Option.isSome_some, if_true, Bool.false_eq_true, if_false, lnts, callO, back, endF, readAll, Option.map_some, Option.bind_some, List.set_cons_zero, List.set_cons_succ, asgT, Dt.truthy, oF_add, oF_sub, oF_neg, oF_eq, oF_ne, oF_lt, oF_gt, oF_le, oF_ge, oF_in, oF_nin, oF_isN, oF_notN, oF_idx, oF_slice, oF_sliceL, oF_sliceH, oF_rev, oF_len, oF_int, oF_min2, oF_max2, oF_list, oF_tuple, oF_sorted, oF_all, oF_any, oF_isInt, oF_isBool, oF_isTuple, oF_isList, oF_isStr, oF_range1, oF_range2, oF_count, oF_index, oF_index3, opR_f, dB_s, fAdd_ii, fSub_ii, fNeg_i, fLen_L, fLen_T, fLen_D, fInt_i, dLt_ii, dGt_ii, dLe_ii, fIdx_L, fIdx_T, fRev_L, fRev_T, fList_L, fList_T, fTuple_L, fTuple_T, fMin2_ii, fMax2_ii, fSlH_T, fSlL_T, fSlH_L, fSlL_L, at_0, at_1, dEq_ii, dEq_bb, dEq_tw, dIn_tw, dIn_iT, dIn_iL, evE_chn, evE_meth, chnO_t, chnO_f, evL_meth, evL_mut, evL_chn, evS_unp, evS_fgt, isIntD, isBoolD, isTupleD, isListD, isSeqD, Bool.not_true, Bool.not_false, items1, itemsF, Dt.listOf, decide_true, decide_false, f24 (k + 2) n ds _ hl ok, hb, h2]⟩⟩
      | false =>
        cases h3 : decide ((x, lastI (x :: y :: t)) ∈ ds) with
        | false => exact ⟨false, fun k => ⟨by rw [run_is_shortcut_in]; unfold b_is_shortcut_in; simp only [evS_seq, evS_skip, evS_frz, evS_set, evS_exp, evS_ret, evS_ite, evS_par, evS_putS, evS_putA, evS_for, evT_op, evT_call, evT_var, evT_bl, evT_and, evT_or, evT_not, evE_var, evE_non, evE_bl, evE_int, evE_str, evE_op, evE_and, evE_or, evE_not, evE_ite, evE_tup, evE_lst, fin0, fin1, fin2, fin3, evE_dsp, evE_call, evE_mut, evE_lc, evE_lc2, evE_dc, evL_nil, evL_pk, evL_lnt, evL_var, evL_non, evL_bl, evL_int, evL_str, evL_op, evL_tup, evL_lst, evL_call, evL_lc, evL_lc2, evL_dc, evL_ite, evL_and, evL_or, evL_not, bind_ok, ofE_ok, ofO_some, next_nx, next_ret, rdS_0, rdS_s, Option.isSome_some, if_true, Bool.false_eq_true, if_false, lnts, callO, back, endF, readAll, Option.map_some, Option.bind_some, List.set_cons_zero, List.set_cons_succ, asgT, Dt.truthy, oF_add, oF_sub, oF_neg, oF_eq, oF_ne, oF_lt, oF_gt, oF_le, oF_ge, oF_in, oF_nin, oF_isN, oF_notN, oF_idx, oF_slice, oF_sliceL, oF_sliceH, oF_rev, oF_len, oF_int, oF_min2, oF_max2, oF_list, oF_tuple, oF_sorted, oF_all, oF_any, oF_isInt, oF_isBool, oF_isTuple, oF_isList, oF_isStr, oF_range1, oF_range2, oF_count, oF_index, oF_index3, opR_f, dB_s, fAdd_ii, fSub_ii, fNeg_i, fLen_L, fLen_T, fLen_D, fInt_i, dLt_ii, dGt_ii, dLe_ii, fIdx_L, fIdx_T, fRev_L, fRev_T, fList_L, fList_T, fTuple_L, fTuple_T, fMin2_ii, fMax2_ii, fSlH_T, fSlL_T, fSlH_L, fSlL_L, at_0, at_1, dEq_ii, dEq_bb, dEq_tw, dIn_tw, dIn_iT, dIn_iL, evE_chn, evE_meth, chnO_t, chnO_f, evL_meth, evL_mut, evL_chn, evS_unp, evS_fgt, isIntD, isBoolD, isTupleD, isListD, isSeqD, Bool.not_true, Bool.not_false, items1, itemsF, Dt.listOf, decide_true, decide_false, f9 k n ds _ hl, hb, h2, a0, a1, h3], by rw [run__law_is_shortcut]; unfold b__law_is_shortcut; simp only [evS_seq, evS_skip, evS_frz, evS_set, evS_exp, evS_ret, evS_ite, evS_par, evS_putS, evS_putA, evS_for, evT_op, evT_call, evT_var, evT_bl, evT_and, evT_or, evT_not, evE_var, evE_non, evE_bl, evE_int, evE_str, evE_op, evE_and, evE_or, evE_not, evE_ite, evE_tup, evE_lst, fin0, fin1, fin2, fin3, evE_dsp, evE_call, evE_mut, evE_lc, evE_lc2, evE_dc, evL_nil, evL_pk, evL_lnt, evL_var, evL_non, evL_bl, evL_int, evL_str, evL_op, evL_tup, evL_lst, evL_call, evL_lc, evL_lc2, evL_dc, evL_ite, evL_and, evL_or, evL_not, bind_ok, ofE_ok, ofO_some, next_nx, next_ret, rdS_0, rdS_s, Option.isSome_some, if_true, Bool.false_eq_true, if_false, lnts, callO, back, endF, readAll, Option.map_some, Option.bind_some, List.set_cons_zero, List.set_cons_succ, asgT, Dt.truthy, oF_add, oF_sub, oF_neg, oF_eq, oF_ne, oF_lt, oF_gt, oF_le, oF_ge, oF_in, oF_nin, oF_isN, oF_notN, oF_idx, oF_slice, oF_sliceL, oF_sliceH, oF_rev, oF_len, oF_int, oF_min2, oF_max2, oF_list, oF_tuple, oF_sorted, oF_all, oF_any, oF_isInt, oF_isBool, oF_isTuple, oF_isList, oF_isStr, oF_range1, oF_range2, oF_count, oF_index, oF_index3, opR_f, dB_s, fAdd_ii, fSub_ii, fNeg_i, fLen_L, fLen_T, fLen_D, fInt_i, dLt_ii, dGt_ii, dLe_ii, fIdx_L, fIdx_T, fRev_L, fRev_T, fList_L, fList_T, fTuple_L, fTuple_T, fMin2_ii, fMax2_ii, fSlH_T, fSlL_T, fSlH_L, fSlL_L, at_0, at_1, dEq_ii, dEq_bb, dEq_tw, dIn_tw, dIn_iT, dIn_iL, evE_chn, evE_meth, chnO_t, chnO_f, evL_meth, evL_mut, evL_chn, evS_unp, evS_fgt, isIntD, isBoolD, isTupleD, isListD, isSeqD, Bool.not_true, Bool.not_false, items1, itemsF, Dt.listOf, decide_true, decide_false, f24 (k + 2) n ds _ hl ok, hb, h2, a0, a1, h3]⟩⟩
        | true => exact ⟨gapB ps (x :: y :: t), fun k => ⟨by rw [run_is_shortcut_in]; unfold b_is_shortcut_in; simp only [evS_seq, evS_skip, evS_frz, evS_set, evS_exp, evS_ret, evS_ite, evS_par, evS_putS, evS_putA, evS_for, evT_op, evT_call, evT_var, evT_bl, evT_and, evT_or, evT_not, evE_var, evE_non, evE_bl, evE_int, evE_str, evE_op, evE_and, evE_or, evE_not, evE_ite, evE_tup, evE_lst, fin0, fin1, fin2, fin3, evE_dsp, evE_call, evE_mut, evE_lc, evE_lc2, evE_dc, evL_nil, evL_pk, evL_lnt, evL_var, evL_non, evL_bl, evL_int, evL_str, evL_op, evL_tup, evL_lst, evL_call, evL_lc, evL_lc2, evL_dc, evL_ite, evL_and, evL_or, evL_not, bind_ok, ofE_ok, ofO_some, next_nx, next_ret, rdS_0, rdS_s, Option.isSome_some, if_true, Bool.false_eq_true, if_false, lnts, callO, back, endF, readAll, Option.map_some, Option.bind_some, List.set_cons_zero, List.set_cons_succ, asgT, Dt.truthy, oF_add, oF_sub, oF_neg, oF_eq, oF_ne, oF_lt, oF_gt, oF_le, oF_ge, oF_in, oF_nin, oF_isN, oF_notN, oF_idx, oF_slice, oF_sliceL, oF_sliceH, oF_rev, oF_len, oF_int, oF_min2, oF_max2, oF_list, oF_tuple, oF_sorted, oF_all, oF_any, oF_isInt, oF_isBool, oF_isTuple, oF_isList, oF_isStr, oF_range1, oF_range2, oF_count, oF_index, oF_index3, opR_f, dB_s, fAdd_ii, fSub_ii, fNeg_i, fLen_L, fLen_T, fLen_D, fInt_i, dLt_ii, dGt_ii, dLe_ii, fIdx_L, fIdx_T, fRev_L, fRev_T, fList_L, fList_T, fTuple_L, fTuple_T, fMin2_ii, fMax2_ii, fSlH_T, fSlL_T, fSlH_L, fSlL_L, at_0, at_1, dEq_ii, dEq_bb, dEq_tw, dIn_tw, dIn_iT, dIn_iL, evE_chn, evE_meth, chnO_t, chnO_f, evL_meth, evL_mut, evL_chn, evS_unp, evS_fgt, isIntD, isBoolD, isTupleD, isListD, isSeqD, Bool.not_true, Bool.not_false, items1, itemsF, Dt.listOf, decide_true, decide_false, f9 k n ds _ hl, hb, h2, a0, a1, h3, f11 (k + 2) n ps _ hw], by rw [run__law_is_shortcut]; unfold b__law_is_shortcut; simp only [evS_seq, evS_skip, evS_frz, evS_set, evS_exp, evS_ret, evS_ite, evS_par, evS_putS, evS_putA, evS_for, evT_op, evT_call, evT_var, evT_bl, evT_and, evT_or, evT_not, evE_var, evE_non, evE_bl, evE_int, evE_str, evE_op, evE_and, evE_or, evE_not, evE_ite, evE_tup, evE_lst, fin0, fin1, fin2, fin3, evE_dsp, evE_call, evE_mut, evE_lc, evE_lc2, evE_dc, evL_nil, evL_pk, evL_lnt, evL_var, evL_non, evL_bl, evL_int, evL_str, evL_op, evL_tup, evL_lst, evL_call, evL_lc, evL_lc2, evL_dc, evL_ite, evL_and, evL_or, evL_not, bind_ok, ofE_ok, ofO_some, next_nx, next_ret, rdS_0, rdS_s, Option.isSome_some, if_true, Bool.false_eq_true, if_false, lnts, callO, back, endF, readAll, Option.map_some, Option.bind_some, List.set_cons_zero, List.set_cons_succ, asgT, Dt.truthy, oF_add, oF_sub, oF_neg, oF_eq, oF_ne, oF_lt, oF_gt, oF_le, oF_ge, oF_in, oF_nin, oF_isN, oF_notN, oF_idx, oF_slice, oF_sliceL, oF_sliceH, oF_rev, oF_len, oF_int, oF_min2, oF_max2, oF_list, oF_tuple, oF_sorted, oF_all, oF_any, oF_isInt, oF_isBool, oF_isTuple, oF_isList, oF_isStr, oF_range1, oF_range2, oF_count, oF_index, oF_index3, opR_f, dB_s, fAdd_ii, fSub_ii, fNeg_i, fLen_L, fLen_T, fLen_D, fInt_i, dLt_ii, dGt_ii, dLe_ii, fIdx_L, fIdx_T, fRev_L, fRev_T, fList_L, fList_T, fTuple_L, fTuple_T, fMin2_ii, fMax2_ii, fSlH_T, fSlL_T, fSlH_L, fSlL_L, at_0, at_1, dEq_ii, dEq_bb, dEq_tw, dIn_tw, dIn_iT, dIn_iL, evE_chn, evE_meth, chnO_t, chnO_f, evL_meth, evL_mut, evL_chn, evS_unp, evS_fgt, isIntD, isBoolD, isTupleD, isListD, isSeqD, Bool.not_true, Bool.not_false, items1, itemsF, Dt.listOf, decide_true, decide_false, f24 (k + 2) n ds _ hl ok, hb, h2, a0, a1, h3, f26 (k + 2) n ps _ hw]⟩⟩
end K14
end
section
set_option Elab.async false
set_option linter.all false
set_option maxRecDepth 100000
set_option maxHeartbeats 4000000
namespace K14
open PySem Dt
def lexLt (p q : Int × Int) : Prop := p.1 < q.1 ∨ (p.1 = q.1 ∧ p.2 < q.2)
theorem dLt_tw (p q : Int × Int) (h : lexLt p q) : dLt (.tuple [.int p.1, .int p.2]) (.tuple [.int q.1, .int q.2]) = some true := by
  show (if okD (tw p) && okD (tw q) && W.alike (tw p) (tw q) && !isNone (tw p) then some (W.dataLt (tw p) (tw q)) else none) = _
  rw [okD_tw, okD_tw, show W.alike (tw p) (tw q) = true by simp [W.alike, W.alikeAll], show isNone (tw p) = false from rfl, W.dataLt_ii]
  unfold lexLt at h
  simp [h]
structure WebOk (n : Int) (ps : List (Int × Int)) : Prop where
  n0 : 0 ≤ n
  n9 : n ≤ 12
  mem : ∀ p ∈ ps, 0 ≤ p.1 ∧ p.1 < p.2 ∧ p.2 < n
  inc : ∀ j, (h : j + 1 < ps.length) → lexLt ps[j] ps[j + 1]
  len : ps.length ≤ 100
  nd : ps.Nodup
theorem f3 (k : Nat) (n a b : Int) (h0 : 0 ≤ a) (h1 : a < b) (h2 : b < n) : Dt.run P0 12 (k + 4) 3 [.int n, tw (a, b)] = .ret (.bool true) [] := by
  rw [run_is_tie]
  unfold b_is_tie
  have e2 : ((([PyData.int a, .int b] : List D).length : Nat) : Int) = 2 := rfl
  simp only [evS_seq, evS_skip, evS_frz, evS_set, evS_exp, evS_ret, evS_ite, evS_par, evS_putS, evS_putA, evS_for, evT_op, evT_call, evT_var, evT_bl, evT_and, evT_or, evT_not, evE_var, evE_non, evE_bl, evE_int, evE_str, evE_op, evE_and, evE_or, evE_not, evE_ite, evE_tup, evE_lst, fin0, fin1, fin2, fin3, evE_dsp, evE_call, evE_mut, evE_lc, evE_lc2, evE_dc, evL_nil, evL_pk, evL_lnt, evL_var, evL_non, evL_bl, evL_int, evL_str, evL_op, evL_tup, evL_lst, evL_call, evL_lc, evL_lc2, evL_dc, evL_ite, evL_and, evL_or, evL_not, bind_ok, ofE_ok, ofO_some, next_nx, next_ret, rdS_0, rdS_s, Option.isSome_some, if_true, Bool.false_eq_true, if_false, lnts, callO, back, endF, readAll, Option.map_some, Option.bind_some, List.set_cons_zero, List.set_cons_succ, asgT, Dt.truthy, oF_add, oF_sub, oF_neg, oF_eq, oF_ne, oF_lt, oF_gt, oF_le, oF_ge, oF_in, oF_nin, oF_isN, oF_notN, oF_idx, oF_slice, oF_sliceL, oF_sliceH, oF_rev, oF_len, oF_int, oF_min2, oF_max2, oF_list, oF_tuple, oF_sorted, oF_all, oF_any, oF_isInt, oF_isBool, oF_isTuple, oF_isList, oF_isStr, oF_range1, oF_range2, oF_count, oF_index, oF_index3, opR_f, dB_s, fAdd_ii, fSub_ii, fNeg_i, fLen_L, fLen_T, fLen_D, fInt_i, dLt_ii, dGt_ii, dLe_ii, fIdx_L, fIdx_T, fRev_L, fRev_T, fList_L, fList_T, fTuple_L, fTuple_T, fMin2_ii, fMax2_ii, fSlH_T, fSlL_T, fSlH_L, fSlL_L, at_0, at_1, dEq_ii, dEq_bb, dEq_tw, dIn_tw, dIn_iT, dIn_iL, evE_chn, evE_meth, chnO_t, chnO_f, evL_meth, evL_mut, evL_chn, evS_unp, evS_fgt, isIntD, isBoolD, isTupleD, isListD, isSeqD, Bool.not_true, Bool.not_false, items1, itemsF, Dt.listOf, decide_true, decide_false, e2]
  rw [all_f (fun _ => true) [.int a, .int b] (w0 := [some (.int n), some (tw (a, b)), none]) rfl (by simp) fun d hd => by
    have hp : placeB n d = true := by
      rcases List.mem_cons.mp hd with rfl | hd
      · show (decide (0 ≤ a) && decide (a < n)) = true
        simp; omega
      · cases List.mem_singleton.mp hd
        show (decide (0 ≤ b) && decide (b < n)) = true
        simp; omega
    exact ⟨[some (.int n), some (tw (a, b)), some d], rfl, rfl, by simp only [evS_seq, evS_skip, evS_frz, evS_set, evS_exp, evS_ret, evS_ite, evS_par, evS_putS, evS_putA, evS_for, evT_op, evT_call, evT_var, evT_bl, evT_and, evT_or, evT_not, evE_var, evE_non, evE_bl, evE_int, evE_str, evE_op, evE_and, evE_or, evE_not, evE_ite, evE_tup, evE_lst, fin0, fin1, fin2, fin3, evE_dsp, evE_call, evE_mut, evE_lc, evE_lc2, evE_dc, evL_nil, evL_pk, evL_lnt, evL_var, evL_non, evL_bl, evL_int, evL_str, evL_op, evL_tup, evL_lst, evL_call, evL_lc, evL_lc2, evL_dc, evL_ite, evL_and, evL_or, evL_not, bind_ok, ofE_ok, ofO_some, next_nx, next_ret, rdS_0, rdS_s, Option.isSome_some, if_true, Bool.false_eq_true, if_false, lnts, callO, back, endF, readAll, Option.map_some, Option.bind_some, List.set_cons_zero, List.set_cons_succ, asgT, Dt.truthy, oF_add, oF_sub, oF_neg, oF_eq, oF_ne, oF_lt, oF_gt, oF_le, oF_ge, oF_in, oF_nin, oF_isN, oF_notN, oF_idx, oF_slice, oF_sliceL, oF_sliceH, oF_rev, oF_len, oF_int, oF_min2, oF_max2, oF_list, oF_tuple, oF_sorted, oF_all, oF_any, oF_isInt, oF_isBool, oF_isTuple, oF_isList, oF_isStr, oF_range1, oF_range2, oF_count, oF_index, oF_index3, opR_f, dB_s, fAdd_ii, fSub_ii, fNeg_i, fLen_L, fLen_T, fLen_D, fInt_i, dLt_ii, dGt_ii, dLe_ii, fIdx_L, fIdx_T, fRev_L, fRev_T, fList_L, fList_T, fTuple_L, fTuple_T, fMin2_ii, fMax2_ii, fSlH_T, fSlL_T, fSlH_L, fSlL_L, at_0, at_1, dEq_ii, dEq_bb, dEq_tw, dIn_tw, dIn_iT, dIn_iL, evE_chn, evE_meth, chnO_t, chnO_f, evL_meth, evL_mut, evL_chn, evS_unp, evS_fgt, isIntD, isBoolD, isTupleD, isListD, isSeqD, Bool.not_true, Bool.not_false, items1, itemsF, Dt.listOf, decide_true, decide_false], by simp only [evS_seq, evS_skip, evS_frz, evS_set, evS_exp, evS_ret, evS_ite, evS_par, evS_putS, evS_putA, evS_for, evT_op, evT_call, evT_var, evT_bl, evT_and, evT_or, evT_not, evE_var, evE_non, evE_bl, evE_int, evE_str, evE_op, evE_and, evE_or, evE_not, evE_ite, evE_tup, evE_lst, fin0, fin1, fin2, fin3, evE_dsp, evE_call, evE_mut, evE_lc, evE_lc2, evE_dc, evL_nil, evL_pk, evL_lnt, evL_var, evL_non, evL_bl, evL_int, evL_str, evL_op, evL_tup, evL_lst, evL_call, evL_lc, evL_lc2, evL_dc, evL_ite, evL_and, evL_or, evL_not, bind_ok, ofE_ok, ofO_some, next_nx, next_ret, rdS_0, rdS_s, Option.isSome_some, if_true, Bool.false_eq_true, if_false, lnts, callO, back, endF, readAll, Option.map_some, Option.bind_some, List.set_cons_zero, List.set_cons_succ, asgT, Dt.truthy, oF_add, oF_sub, oF_neg, oF_eq, oF_ne, oF_lt, oF_gt, oF_le, oF_ge, oF_in, oF_nin, oF_isN, oF_notN, oF_idx, oF_slice, oF_sliceL, oF_sliceH, oF_rev, oF_len, oF_int, oF_min2, oF_max2, oF_list, oF_tuple, oF_sorted, oF_all, oF_any, oF_isInt, oF_isBool, oF_isTuple, oF_isList, oF_isStr, oF_range1, oF_range2, oF_count, oF_index, oF_index3, opR_f, dB_s, fAdd_ii, fSub_ii, fNeg_i, fLen_L, fLen_T, fLen_D, fInt_i, dLt_ii, dGt_ii, dLe_ii, fIdx_L, fIdx_T, fRev_L, fRev_T, fList_L, fList_T, fTuple_L, fTuple_T, fMin2_ii, fMax2_ii, fSlH_T, fSlL_T, fSlH_L, fSlL_L, at_0, at_1, dEq_ii, dEq_bb, dEq_tw, dIn_tw, dIn_iT, dIn_iL, evE_chn, evE_meth, chnO_t, chnO_f, evL_meth, evL_mut, evL_chn, evS_unp, evS_fgt, isIntD, isBoolD, isTupleD, isListD, isSeqD, Bool.not_true, Bool.not_false, items1, itemsF, Dt.listOf, decide_true, decide_false, f2, hp]⟩]
  simp only [evS_seq, evS_skip, evS_frz, evS_set, evS_exp, evS_ret, evS_ite, evS_par, evS_putS, evS_putA, evS_for, evT_op, evT_call, evT_var, evT_bl, evT_and, evT_or, evT_not, evE_var, evE_non, evE_bl, evE_int, evE_str, evE_op, evE_and, evE_or, evE_not, evE_ite, evE_tup, evE_lst, fin0, fin1, fin2, fin3, evE_dsp, evE_call, evE_mut, evE_lc, evE_lc2, evE_dc, evL_nil, evL_pk, evL_lnt, evL_var, evL_non, evL_bl, evL_int, evL_str, evL_op, evL_tup, evL_lst, evL_call, evL_lc, evL_lc2, evL_dc, evL_ite, evL_and, evL_or, evL_not, bind_ok, ofE_ok, ofO_some, next_nx, next_ret, rdS_0, rdS_s, Option.isSome_some, if_true, Bool.false_eq_true, if_false, lnts, callO, back, endF, readAll, Option.map_some, Option.bind_some, List.set_cons_zero, List.set_cons_succ, asgT, Dt.truthy, oF_add, oF_sub, oF_neg, oF_eq, oF_ne, oF_lt, oF_gt, oF_le, oF_ge, oF_in, oF_nin, oF_isN, oF_notN, oF_idx, oF_slice, oF_sliceL, oF_sliceH, oF_rev, oF_len, oF_int, oF_min2, oF_max2, oF_list, oF_tuple, oF_sorted, oF_all, oF_any, oF_isInt, oF_isBool, oF_isTuple, oF_isList, oF_isStr, oF_range1, oF_range2, oF_count, oF_index, oF_index3, opR_f, dB_s, fAdd_ii, fSub_ii, fNeg_i, fLen_L, fLen_T, fLen_D, fInt_i, dLt_ii, dGt_ii, dLe_ii, fIdx_L, fIdx_T, fRev_L, fRev_T, fList_L, fList_T, fTuple_L, fTuple_T, fMin2_ii, fMax2_ii, fSlH_T, fSlL_T, fSlH_L, fSlL_L, at_0, at_1, dEq_ii, dEq_bb, dEq_tw, dIn_tw, dIn_iT, dIn_iL, evE_chn, evE_meth, chnO_t, chnO_f, evL_meth, evL_mut, evL_chn, evS_unp, evS_fgt, isIntD, isBoolD, isTupleD, isListD, isSeqD, Bool.not_true, Bool.not_false, items1, itemsF, Dt.listOf, decide_true, decide_false, fAll_map (fun _ : D => true), List.all_cons, List.all_nil, Bool.and_true, h1]
theorem zip_tw (ps qs : List (Int × Int)) : ((ps.map tw).zip (qs.map tw)).map (fun p => PyData.tuple [p.1, p.2]) = (ps.zip qs).map fun p => .tuple [tw p.1, tw p.2] := by
  rw [List.zip_map, List.map_map]
  rfl
theorem f4 (k : Nat) (n : Int) (ps : List (Int × Int)) (h : WebOk n ps) : Dt.run P0 12 (k + 5) 4 [.tuple [.int n, tws ps]] = .ret (.bool true) [] := by
  have hl := h.len
  have e2 : ((([PyData.int n, tws ps] : List D).length : Nat) : Int) = 2 := rfl
  have ec : countB (.int n) = true := decide_eq_true h.n0
  have c1 : cutD (ps.map tw) (some ((1 : Nat) : Int)) none = (ps.drop 1).map tw := by rw [cut_lo, ← List.map_drop]
  have c1 : cutD (ps.map tw) (some 1) none = (ps.drop 1).map tw := c1
  rw [run_is_web]
  unfold b_is_web
  simp only [evS_seq, evS_skip, evS_frz, evS_set, evS_exp, evS_ret, evS_ite, evS_par, evS_putS, evS_putA, evS_for, evT_op, evT_call, evT_var, evT_bl, evT_and, evT_or, evT_not, evE_var, evE_non, evE_bl, evE_int, evE_str, evE_op, evE_and, evE_or, evE_not, evE_ite, evE_tup, evE_lst, fin0, fin1, fin2, fin3, evE_dsp, evE_call, evE_mut, evE_lc, evE_lc2, evE_dc, evL_nil, evL_pk, evL_lnt, evL_var, evL_non, evL_bl, evL_int, evL_str, evL_op, evL_tup, evL_lst, evL_call, evL_lc, evL_lc2, evL_dc, evL_ite, evL_and, evL_or, evL_not, bind_ok, ofE_ok, ofO_some, next_nx, next_ret, rdS_0, rdS_s, Option.isSome_some, if_true, Bool.false_eq_true, if_false, lnts, callO, back, endF, readAll, Option.map_some, Option.bind_some, List.set_cons_zero, List.set_cons_succ, asgT, Dt.truthy, oF_add, oF_sub, oF_neg, oF_eq, oF_ne, oF_lt, oF_gt, oF_le, oF_ge, oF_in, oF_nin, oF_isN, oF_notN, oF_idx, oF_slice, oF_sliceL, oF_sliceH, oF_rev, oF_len, oF_int, oF_min2, oF_max2, oF_list, oF_tuple, oF_sorted, oF_all, oF_any, oF_isInt, oF_isBool, oF_isTuple, oF_isList, oF_isStr, oF_range1, oF_range2, oF_count, oF_index, oF_index3, opR_f, dB_s, fAdd_ii, fSub_ii, fNeg_i, fLen_L, fLen_T, fLen_D, fInt_i, dLt_ii, dGt_ii, dLe_ii, fIdx_L, fIdx_T, fRev_L, fRev_T, fList_L, fList_T, fTuple_L, fTuple_T, fMin2_ii, fMax2_ii, fSlH_T, fSlL_T, fSlH_L, fSlL_L, at_0, at_1, dEq_ii, dEq_bb, dEq_tw, dIn_tw, dIn_iT, dIn_iL, evE_chn, evE_meth, chnO_t, chnO_f, evL_meth, evL_mut, evL_chn, evS_unp, evS_fgt, isIntD, isBoolD, isTupleD, isListD, isSeqD, Bool.not_true, Bool.not_false, items1, itemsF, Dt.listOf, decide_true, decide_false, e2, f1, ec]
  rw [all_f (fun _ => true) (ps.map tw) (w0 := [some (.tuple [.int n, tws ps]), none, none, none]) rfl (by simp; omega) fun d hd => by
    obtain ⟨⟨a, b⟩, hp, rfl⟩ := List.mem_map.mp hd
    obtain ⟨p0, p1, p2⟩ := h.mem _ hp
    exact ⟨[some (.tuple [.int n, tws ps]), some (tw (a, b)), none, none], rfl, rfl, by simp only [evS_seq, evS_skip, evS_frz, evS_set, evS_exp, evS_ret, evS_ite, evS_par, evS_putS, evS_putA, evS_for, evT_op, evT_call, evT_var, evT_bl, evT_and, evT_or, evT_not, evE_var, evE_non, evE_bl, evE_int, evE_str, evE_op, evE_and, evE_or, evE_not, evE_ite, evE_tup, evE_lst, fin0, fin1, fin2, fin3, evE_dsp, evE_call, evE_mut, evE_lc, evE_lc2, evE_dc, evL_nil, evL_pk, evL_lnt, evL_var, evL_non, evL_bl, evL_int, evL_str, evL_op, evL_tup, evL_lst, evL_call, evL_lc, evL_lc2, evL_dc, evL_ite, evL_and, evL_or, evL_not, bind_ok, ofE_ok, ofO_some, next_nx, next_ret, rdS_0, rdS_s, Option.isSome_some, if_true, Bool.false_eq_true, if_false, lnts, callO, back, endF, readAll, Option.map_some, Option.bind_some, List.set_cons_zero, List.set_cons_succ, asgT, Dt.truthy, oF_add, oF_sub, oF_neg, oF_eq, oF_ne, oF_lt, oF_gt, oF_le, oF_ge, oF_in, oF_nin, oF_isN, oF_notN, oF_idx, oF_slice, oF_sliceL, oF_sliceH, oF_rev, oF_len, oF_int, oF_min2, oF_max2, oF_list, oF_tuple, oF_sorted, oF_all, oF_any, oF_isInt, oF_isBool, oF_isTuple, oF_isList, oF_isStr, oF_range1, oF_range2, oF_count, oF_index, oF_index3, opR_f, dB_s, fAdd_ii, fSub_ii, fNeg_i, fLen_L, fLen_T, fLen_D, fInt_i, dLt_ii, dGt_ii, dLe_ii, fIdx_L, fIdx_T, fRev_L, fRev_T, fList_L, fList_T, fTuple_L, fTuple_T, fMin2_ii, fMax2_ii, fSlH_T, fSlL_T, fSlH_L, fSlL_L, at_0, at_1, dEq_ii, dEq_bb, dEq_tw, dIn_tw, dIn_iT, dIn_iL, evE_chn, evE_meth, chnO_t, chnO_f, evL_meth, evL_mut, evL_chn, evS_unp, evS_fgt, isIntD, isBoolD, isTupleD, isListD, isSeqD, Bool.not_true, Bool.not_false, items1, itemsF, Dt.listOf, decide_true, decide_false], by simp only [evS_seq, evS_skip, evS_frz, evS_set, evS_exp, evS_ret, evS_ite, evS_par, evS_putS, evS_putA, evS_for, evT_op, evT_call, evT_var, evT_bl, evT_and, evT_or, evT_not, evE_var, evE_non, evE_bl, evE_int, evE_str, evE_op, evE_and, evE_or, evE_not, evE_ite, evE_tup, evE_lst, fin0, fin1, fin2, fin3, evE_dsp, evE_call, evE_mut, evE_lc, evE_lc2, evE_dc, evL_nil, evL_pk, evL_lnt, evL_var, evL_non, evL_bl, evL_int, evL_str, evL_op, evL_tup, evL_lst, evL_call, evL_lc, evL_lc2, evL_dc, evL_ite, evL_and, evL_or, evL_not, bind_ok, ofE_ok, ofO_some, next_nx, next_ret, rdS_0, rdS_s, Option.isSome_some, if_true, Bool.false_eq_true, if_false, lnts, callO, back, endF, readAll, Option.map_some, Option.bind_some, List.set_cons_zero, List.set_cons_succ, asgT, Dt.truthy, oF_add, oF_sub, oF_neg, oF_eq, oF_ne, oF_lt, oF_gt, oF_le, oF_ge, oF_in, oF_nin, oF_isN, oF_notN, oF_idx, oF_slice, oF_sliceL, oF_sliceH, oF_rev, oF_len, oF_int, oF_min2, oF_max2, oF_list, oF_tuple, oF_sorted, oF_all, oF_any, oF_isInt, oF_isBool, oF_isTuple, oF_isList, oF_isStr, oF_range1, oF_range2, oF_count, oF_index, oF_index3, opR_f, dB_s, fAdd_ii, fSub_ii, fNeg_i, fLen_L, fLen_T, fLen_D, fInt_i, dLt_ii, dGt_ii, dLe_ii, fIdx_L, fIdx_T, fRev_L, fRev_T, fList_L, fList_T, fTuple_L, fTuple_T, fMin2_ii, fMax2_ii, fSlH_T, fSlL_T, fSlH_L, fSlL_L, at_0, at_1, dEq_ii, dEq_bb, dEq_tw, dIn_tw, dIn_iT, dIn_iL, evE_chn, evE_meth, chnO_t, chnO_f, evL_meth, evL_mut, evL_chn, evS_unp, evS_fgt, isIntD, isBoolD, isTupleD, isListD, isSeqD, Bool.not_true, Bool.not_false, items1, itemsF, Dt.listOf, decide_true, decide_false, f3 k n a b p0 p1 p2]⟩]
  have e3 : fAll (.list ((ps.map tw).map fun _ => PyData.bool true)) = some (.bool true) := by
    rw [fAll_map (fun _ : D => true)]
    simp
  simp only [evS_seq, evS_skip, evS_frz, evS_set, evS_exp, evS_ret, evS_ite, evS_par, evS_putS, evS_putA, evS_for, evT_op, evT_call, evT_var, evT_bl, evT_and, evT_or, evT_not, evE_var, evE_non, evE_bl, evE_int, evE_str, evE_op, evE_and, evE_or, evE_not, evE_ite, evE_tup, evE_lst, fin0, fin1, fin2, fin3, evE_dsp, evE_call, evE_mut, evE_lc, evE_lc2, evE_dc, evL_nil, evL_pk, evL_lnt, evL_var, evL_non, evL_bl, evL_int, evL_str, evL_op, evL_tup, evL_lst, evL_call, evL_lc, evL_lc2, evL_dc, evL_ite, evL_and, evL_or, evL_not, bind_ok, ofE_ok, ofO_some, next_nx, next_ret, rdS_0, rdS_s, Option.isSome_some, if_true, Bool.false_eq_true, if_false, lnts, callO, back, endF, readAll, Option.map_some, Option.bind_some, List.set_cons_zero, List.set_cons_succ, asgT, Dt.truthy, oF_add, oF_sub, oF_neg, oF_eq, oF_ne, oF_lt, oF_gt, oF_le, oF_ge, oF_in, oF_nin, oF_isN, oF_notN, oF_idx, oF_slice, oF_sliceL, oF_sliceH, oF_rev, oF_len, oF_int, oF_min2, oF_max2, oF_list, oF_tuple, oF_sorted, oF_all, oF_any, oF_isInt, oF_isBool, oF_isTuple, oF_isList, oF_isStr, oF_range1, oF_range2, oF_count, oF_index, oF_index3, opR_f, dB_s, fAdd_ii, fSub_ii, fNeg_i, fLen_L, fLen_T, fLen_D, fInt_i, dLt_ii, dGt_ii, dLe_ii, fIdx_L, fIdx_T, fRev_L, fRev_T, fList_L, fList_T, fTuple_L, fTuple_T, fMin2_ii, fMax2_ii, fSlH_T, fSlL_T, fSlH_L, fSlL_L, at_0, at_1, dEq_ii, dEq_bb, dEq_tw, dIn_tw, dIn_iT, dIn_iL, evE_chn, evE_meth, chnO_t, chnO_f, evL_meth, evL_mut, evL_chn, evS_unp, evS_fgt, isIntD, isBoolD, isTupleD, isListD, isSeqD, Bool.not_true, Bool.not_false, items1, itemsF, Dt.listOf, decide_true, decide_false, e3, itZp, c1, zip_tw]
  rw [all_f (fun _ => true) ((ps.zip (ps.drop 1)).map fun p => .tuple [tw p.1, tw p.2]) (w0 := [some (.tuple [.int n, tws ps]), none, none, none]) rfl (by simp; omega) fun d hd => by
    obtain ⟨⟨p, q⟩, hp, rfl⟩ := List.mem_map.mp hd
    obtain ⟨j, hj, e⟩ := List.mem_iff_getElem.mp hp
    rw [List.length_zip, List.length_drop] at hj
    rw [List.getElem_zip, List.getElem_drop] at e
    have e1 : ps[j] = p := congrArg Prod.fst e
    have e2 : ps[1 + j] = q := congrArg Prod.snd e
    have hx := h.inc j (by omega)
    simp only [Nat.add_comm 1 j] at e2
    rw [e1, e2] at hx
    exact ⟨[some (.tuple [.int n, tws ps]), none, some (tw p), some (tw q)], rfl, rfl, by simp only [evS_seq, evS_skip, evS_frz, evS_set, evS_exp, evS_ret, evS_ite, evS_par, evS_putS, evS_putA, evS_for, evT_op, evT_call, evT_var, evT_bl, evT_and, evT_or, evT_not, evE_var, evE_non, evE_bl, evE_int, evE_str, evE_op, evE_and, evE_or, evE_not, evE_ite, evE_tup, evE_lst, fin0, fin1, fin2, fin3, evE_dsp, evE_call, evE_mut, evE_lc, evE_lc2, evE_dc, evL_nil, evL_pk, evL_lnt, evL_var, evL_non, evL_bl, evL_int, evL_str, evL_op, evL_tup, evL_lst, evL_call, evL_lc, evL_lc2, evL_dc, evL_ite, evL_and, evL_or, evL_not, bind_ok, ofE_ok, ofO_some, next_nx, next_ret, rdS_0, rdS_s, Option.isSome_some, if_true, Bool.false_eq_true, if_false, lnts, callO, back, endF, readAll, Option.map_some, Option.bind_some, List.set_cons_zero, List.set_cons_succ, asgT, Dt.truthy, oF_add, oF_sub, oF_neg, oF_eq, oF_ne, oF_lt, oF_gt, oF_le, oF_ge, oF_in, oF_nin, oF_isN, oF_notN, oF_idx, oF_slice, oF_sliceL, oF_sliceH, oF_rev, oF_len, oF_int, oF_min2, oF_max2, oF_list, oF_tuple, oF_sorted, oF_all, oF_any, oF_isInt, oF_isBool, oF_isTuple, oF_isList, oF_isStr, oF_range1, oF_range2, oF_count, oF_index, oF_index3, opR_f, dB_s, fAdd_ii, fSub_ii, fNeg_i, fLen_L, fLen_T, fLen_D, fInt_i, dLt_ii, dGt_ii, dLe_ii, fIdx_L, fIdx_T, fRev_L, fRev_T, fList_L, fList_T, fTuple_L, fTuple_T, fMin2_ii, fMax2_ii, fSlH_T, fSlL_T, fSlH_L, fSlL_L, at_0, at_1, dEq_ii, dEq_bb, dEq_tw, dIn_tw, dIn_iT, dIn_iL, evE_chn, evE_meth, chnO_t, chnO_f, evL_meth, evL_mut, evL_chn, evS_unp, evS_fgt, isIntD, isBoolD, isTupleD, isListD, isSeqD, Bool.not_true, Bool.not_false, items1, itemsF, Dt.listOf, decide_true, decide_false], by simp only [evS_seq, evS_skip, evS_frz, evS_set, evS_exp, evS_ret, evS_ite, evS_par, evS_putS, evS_putA, evS_for, evT_op, evT_call, evT_var, evT_bl, evT_and, evT_or, evT_not, evE_var, evE_non, evE_bl, evE_int, evE_str, evE_op, evE_and, evE_or, evE_not, evE_ite, evE_tup, evE_lst, fin0, fin1, fin2, fin3, evE_dsp, evE_call, evE_mut, evE_lc, evE_lc2, evE_dc, evL_nil, evL_pk, evL_lnt, evL_var, evL_non, evL_bl, evL_int, evL_str, evL_op, evL_tup, evL_lst, evL_call, evL_lc, evL_lc2, evL_dc, evL_ite, evL_and, evL_or, evL_not, bind_ok, ofE_ok, ofO_some, next_nx, next_ret, rdS_0, rdS_s, Option.isSome_some, if_true, Bool.false_eq_true, if_false, lnts, callO, back, endF, readAll, Option.map_some, Option.bind_some, List.set_cons_zero, List.set_cons_succ, asgT, Dt.truthy, oF_add, oF_sub, oF_neg, oF_eq, oF_ne, oF_lt, oF_gt, oF_le, oF_ge, oF_in, oF_nin, oF_isN, oF_notN, oF_idx, oF_slice, oF_sliceL, oF_sliceH, oF_rev, oF_len, oF_int, oF_min2, oF_max2, oF_list, oF_tuple, oF_sorted, oF_all, oF_any, oF_isInt, oF_isBool, oF_isTuple, oF_isList, oF_isStr, oF_range1, oF_range2, oF_count, oF_index, oF_index3, opR_f, dB_s, fAdd_ii, fSub_ii, fNeg_i, fLen_L, fLen_T, fLen_D, fInt_i, dLt_ii, dGt_ii, dLe_ii, fIdx_L, fIdx_T, fRev_L, fRev_T, fList_L, fList_T, fTuple_L, fTuple_T, fMin2_ii, fMax2_ii, fSlH_T, fSlL_T, fSlH_L, fSlL_L, at_0, at_1, dEq_ii, dEq_bb, dEq_tw, dIn_tw, dIn_iT, dIn_iL, evE_chn, evE_meth, chnO_t, chnO_f, evL_meth, evL_mut, evL_chn, evS_unp, evS_fgt, isIntD, isBoolD, isTupleD, isListD, isSeqD, Bool.not_true, Bool.not_false, items1, itemsF, Dt.listOf, decide_true, decide_false, dLt_tw p q hx]⟩]
  have e4 : fAll (.list (((ps.zip (ps.drop 1)).map fun p => PyData.tuple [tw p.1, tw p.2]).map fun _ => PyData.bool true)) = some (.bool true) := by
    rw [fAll_map (fun _ : D => true)]
    simp
  simp only [evS_seq, evS_skip, evS_frz, evS_set, evS_exp, evS_ret, evS_ite, evS_par, evS_putS, evS_putA, evS_for, evT_op, evT_call, evT_var, evT_bl, evT_and, evT_or, evT_not, evE_var, evE_non, evE_bl, evE_int, evE_str, evE_op, evE_and, evE_or, evE_not, evE_ite, evE_tup, evE_lst, fin0, fin1, fin2, fin3, evE_dsp, evE_call, evE_mut, evE_lc, evE_lc2, evE_dc, evL_nil, evL_pk, evL_lnt, evL_var, evL_non, evL_bl, evL_int, evL_str, evL_op, evL_tup, evL_lst, evL_call, evL_lc, evL_lc2, evL_dc, evL_ite, evL_and, evL_or, evL_not, bind_ok, ofE_ok, ofO_some, next_nx, next_ret, rdS_0, rdS_s, Option.isSome_some, if_true, Bool.false_eq_true, if_false, lnts, callO, back, endF, readAll, Option.map_some, Option.bind_some, List.set_cons_zero, List.set_cons_succ, asgT, Dt.truthy, oF_add, oF_sub, oF_neg, oF_eq, oF_ne, oF_lt, oF_gt, oF_le, oF_ge, oF_in, oF_nin, oF_isN, oF_notN, oF_idx, oF_slice, oF_sliceL, oF_sliceH, oF_rev, oF_len, oF_int, oF_min2, oF_max2, oF_list, oF_tuple, oF_sorted, oF_all, oF_any, oF_isInt, oF_isBool, oF_isTuple, oF_isList, oF_isStr, oF_range1, oF_range2, oF_count, oF_index, oF_index3, opR_f, dB_s, fAdd_ii, fSub_ii, fNeg_i, fLen_L, fLen_T, fLen_D, fInt_i, dLt_ii, dGt_ii, dLe_ii, fIdx_L, fIdx_T, fRev_L, fRev_T, fList_L, fList_T, fTuple_L, fTuple_T, fMin2_ii, fMax2_ii, fSlH_T, fSlL_T, fSlH_L, fSlL_L, at_0, at_1, dEq_ii, dEq_bb, dEq_tw, dIn_tw, dIn_iT, dIn_iL, evE_chn, evE_meth, chnO_t, chnO_f, evL_meth, evL_mut, evL_chn, evS_unp, evS_fgt, isIntD, isBoolD, isTupleD, isListD, isSeqD, Bool.not_true, Bool.not_false, items1, itemsF, Dt.listOf, decide_true, decide_false, e4]
theorem f5 (k : Nat) (n : Int) (ps : List (Int × Int)) (h : WebOk n ps) : Dt.run P0 12 (k + 6) 5 [.tuple [.int n, tws ps]] = .ret .none [] := by
  rw [run_need_web]
  unfold b_need_web
  simp only [evS_seq, evS_skip, evS_frz, evS_set, evS_exp, evS_ret, evS_ite, evS_par, evS_putS, evS_putA, evS_for, evT_op, evT_call, evT_var, evT_bl, evT_and, evT_or, evT_not, evE_var, evE_non, evE_bl, evE_int, evE_str, evE_op, evE_and, evE_or, evE_not, evE_ite, evE_tup, evE_lst, fin0, fin1, fin2, fin3, evE_dsp, evE_call, evE_mut, evE_lc, evE_lc2, evE_dc, evL_nil, evL_pk, evL_lnt, evL_var, evL_non, evL_bl, evL_int, evL_str, evL_op, evL_tup, evL_lst, evL_call, evL_lc, evL_lc2, evL_dc, evL_ite, evL_and, evL_or, evL_not, bind_ok, ofE_ok, ofO_some, next_nx, next_ret, rdS_0, rdS_s, Option.isSome_some, if_true, Bool.false_eq_true, if_false, lnts, callO, back, endF, readAll, Option.map_some, Option.bind_some, List.set_cons_zero, List.set_cons_succ, asgT, Dt.truthy, oF_add, oF_sub, oF_neg, oF_eq, oF_ne, oF_lt, oF_gt, oF_le, oF_ge, oF_in, oF_nin, oF_isN, oF_notN, oF_idx, oF_slice, oF_sliceL, oF_sliceH, oF_rev, oF_len, oF_int, oF_min2, oF_max2, oF_list, oF_tuple, oF_sorted, oF_all, oF_any, oF_isInt, oF_isBool, oF_isTuple, oF_isList, oF_isStr, oF_range1, oF_range2, oF_count, oF_index, oF_index3, opR_f, dB_s, fAdd_ii, fSub_ii, fNeg_i, fLen_L, fLen_T, fLen_D, fInt_i, dLt_ii, dGt_ii, dLe_ii, fIdx_L, fIdx_T, fRev_L, fRev_T, fList_L, fList_T, fTuple_L, fTuple_T, fMin2_ii, fMax2_ii, fSlH_T, fSlL_T, fSlH_L, fSlL_L, at_0, at_1, dEq_ii, dEq_bb, dEq_tw, dIn_tw, dIn_iT, dIn_iL, evE_chn, evE_meth, chnO_t, chnO_f, evL_meth, evL_mut, evL_chn, evS_unp, evS_fgt, isIntD, isBoolD, isTupleD, isListD, isSeqD, Bool.not_true, Bool.not_false, items1, itemsF, Dt.listOf, decide_true, decide_false, f4 k n ps h]
/-- directions of a web -/
structure DirOk (n : Int) (ps ds : List (Int × Int)) : Prop where
  len : ds.length = ps.length
  each : ∀ p ∈ ps.zip ds, tie p.2.1 p.2.2 = p.1
theorem tie_place {n a b : Int} {p : Int × Int} (e : tie a b = p) (h : 0 ≤ p.1 ∧ p.1 < p.2 ∧ p.2 < n) : (0 ≤ a ∧ a < n) ∧ 0 ≤ b ∧ b < n := by
  subst e
  unfold tie at h
  by_cases q : a < b
  · rw [if_pos q] at h
    simp only at h
    omega
  · rw [if_neg q] at h
    simp only at h
    omega
abbrev bD : S := (.seq (.ite (.or (.not (.op .isTuple false (.cons (.pk 3) .nil))) (.or (.op .ne false (.cons (.op .len false (.cons (.pk 3) .nil)) (.cons (.int 2) .nil))) (.not (.op .all false (.cons (.lc [4] (.v 4) .seq (.cons (.var 3) .nil) (.bl true) .F (.call 2 (.cons (.op .idx false (.cons (.pk 0) (.cons (.int 0) .nil))) (.cons (.var 4) .nil)))) .nil)))))
  (.seq (.ret (.bl false))
  .skip)
  .skip)
  (.seq (.ite (.op .ne false (.cons (.call 6 (.cons (.op .idx false (.cons (.pk 3) (.cons (.int 0) .nil))) (.cons (.op .idx false (.cons (.pk 3) (.cons (.int 1) .nil))) .nil))) (.cons (.pk 2) .nil)))
  (.seq (.ret (.bl false))
  .skip)
  .skip)
  .skip))
theorem s_dir (k : Nat) (n : Int) (ps ds : List (Int × Int)) (p : Int × Int) (a b : Int) (o2 o3 : Option D) (e : tie a b = p) (h : 0 ≤ p.1 ∧ p.1 < p.2 ∧ p.2 < n) :
    forF ⟨Dt.run P0 12 (k + 3), 12, P0.sub⟩ (.cons (.v 2) (.cons (.v 3) .nil)) bD (.tuple [tw p, tw (a, b)]) [some (.tuple [.int n, tws ps]), some (tws ds), o2, o3, none] = .nx [some (.tuple [.int n, tws ps]), some (tws ds), some (tw p), some (tw (a, b)), none] := by
  obtain ⟨h1, h2⟩ := tie_place e h
  have e2 : ((([PyData.int a, .int b] : List D).length : Nat) : Int) = 2 := rfl
  unfold forF
  simp only [evS_seq, evS_skip, evS_frz, evS_set, evS_exp, evS_ret, evS_ite, evS_par, evS_putS, evS_putA, evS_for, evT_op, evT_call, evT_var, evT_bl, evT_and, evT_or, evT_not, evE_var, evE_non, evE_bl, evE_int, evE_str, evE_op, evE_and, evE_or, evE_not, evE_ite, evE_tup, evE_lst, fin0, fin1, fin2, fin3, evE_dsp, evE_call, evE_mut, evE_lc, evE_lc2, evE_dc, evL_nil, evL_pk, evL_lnt, evL_var, evL_non, evL_bl, evL_int, evL_str, evL_op, evL_tup, evL_lst, evL_call, evL_lc, evL_lc2, evL_dc, evL_ite, evL_and, evL_or, evL_not, bind_ok, ofE_ok, ofO_some, next_nx, next_ret, rdS_0, rdS_s, Option.isSome_some, if_true, Bool.false_eq_true, if_false, lnts, callO, back, endF, readAll, Option.map_some, Option.bind_some, List.set_cons_zero, List.set_cons_succ, asgT, Dt.truthy, oF_add, oF_sub, oF_neg, oF_eq, oF_ne, oF_lt, oF_gt, oF_le, oF_ge, oF_in, oF_nin, oF_isN, oF_notN, oF_idx, oF_slice, oF_sliceL, oF_sliceH, oF_rev, oF_len, oF_int, oF_min2, oF_max2, oF_list, oF_tuple, oF_sorted, oF_all, oF_any, oF_isInt, oF_isBool, oF_isTuple, oF_isList, oF_isStr, oF_range1, oF_range2, oF_count, oF_index, oF_index3, opR_f, dB_s, fAdd_ii, fSub_ii, fNeg_i, fLen_L, fLen_T, fLen_D, fInt_i, dLt_ii, dGt_ii, dLe_ii, fIdx_L, fIdx_T, fRev_L, fRev_T, fList_L, fList_T, fTuple_L, fTuple_T, fMin2_ii, fMax2_ii, fSlH_T, fSlL_T, fSlH_L, fSlL_L, at_0, at_1, dEq_ii, dEq_bb, dEq_tw, dIn_tw, dIn_iT, dIn_iL, evE_chn, evE_meth, chnO_t, chnO_f, evL_meth, evL_mut, evL_chn, evS_unp, evS_fgt, isIntD, isBoolD, isTupleD, isListD, isSeqD, Bool.not_true, Bool.not_false, items1, itemsF, Dt.listOf, decide_true, decide_false, e2]
  rw [all_f (fun _ => true) [.int a, .int b] (w0 := [some (.tuple [.int n, tws ps]), some (tws ds), some (tw p), some (tw (a, b)), none]) rfl (by simp) fun d hd => by
    have hp : placeB n d = true := by
      rcases List.mem_cons.mp hd with rfl | hd
      · show (decide (0 ≤ a) && decide (a < n)) = true
        simp; omega
      · cases List.mem_singleton.mp hd
        show (decide (0 ≤ b) && decide (b < n)) = true
        simp; omega
    exact ⟨[some (.tuple [.int n, tws ps]), some (tws ds), some (tw p), some (tw (a, b)), some d], rfl, rfl, by simp only [evS_seq, evS_skip, evS_frz, evS_set, evS_exp, evS_ret, evS_ite, evS_par, evS_putS, evS_putA, evS_for, evT_op, evT_call, evT_var, evT_bl, evT_and, evT_or, evT_not, evE_var, evE_non, evE_bl, evE_int, evE_str, evE_op, evE_and, evE_or, evE_not, evE_ite, evE_tup, evE_lst, fin0, fin1, fin2, fin3, evE_dsp, evE_call, evE_mut, evE_lc, evE_lc2, evE_dc, evL_nil, evL_pk, evL_lnt, evL_var, evL_non, evL_bl, evL_int, evL_str, evL_op, evL_tup, evL_lst, evL_call, evL_lc, evL_lc2, evL_dc, evL_ite, evL_and, evL_or, evL_not, bind_ok, ofE_ok, ofO_some, next_nx, next_ret, rdS_0, rdS_s, Option.isSome_some, if_true, Bool.false_eq_true, if_false, lnts, callO, back, endF, readAll, Option.map_some, Option.bind_some, List.set_cons_zero, List.set_cons_succ, asgT, Dt.truthy, oF_add, oF_sub, oF_neg, oF_eq, oF_ne, oF_lt, oF_gt, oF_le, oF_ge, oF_in, oF_nin, oF_isN, oF_notN, oF_idx, oF_slice, oF_sliceL, oF_sliceH, oF_rev, oF_len, oF_int, oF_min2, oF_max2, oF_list, oF_tuple, oF_sorted, oF_all, oF_any, oF_isInt, oF_isBool, oF_isTuple, oF_isList, oF_isStr, oF_range1, oF_range2, oF_count, oF_index, oF_index3, opR_f, dB_s, fAdd_ii, fSub_ii, fNeg_i, fLen_L, fLen_T, fLen_D, fInt_i, dLt_ii, dGt_ii, dLe_ii, fIdx_L, fIdx_T, fRev_L, fRev_T, fList_L, fList_T, fTuple_L, fTuple_T, fMin2_ii, fMax2_ii, fSlH_T, fSlL_T, fSlH_L, fSlL_L, at_0, at_1, dEq_ii, dEq_bb, dEq_tw, dIn_tw, dIn_iT, dIn_iL, evE_chn, evE_meth, chnO_t, chnO_f, evL_meth, evL_mut, evL_chn, evS_unp, evS_fgt, isIntD, isBoolD, isTupleD, isListD, isSeqD, Bool.not_true, Bool.not_false, items1, itemsF, Dt.listOf, decide_true, decide_false], by simp only [evS_seq, evS_skip, evS_frz, evS_set, evS_exp, evS_ret, evS_ite, evS_par, evS_putS, evS_putA, evS_for, evT_op, evT_call, evT_var, evT_bl, evT_and, evT_or, evT_not, evE_var, evE_non, evE_bl, evE_int, evE_str, evE_op, evE_and, evE_or, evE_not, evE_ite, evE_tup, evE_lst, fin0, fin1, fin2, fin3, evE_dsp, evE_call, evE_mut, evE_lc, evE_lc2, evE_dc, evL_nil, evL_pk, evL_lnt, evL_var, evL_non, evL_bl, evL_int, evL_str, evL_op, evL_tup, evL_lst, evL_call, evL_lc, evL_lc2, evL_dc, evL_ite, evL_and, evL_or, evL_not, bind_ok, ofE_ok, ofO_some, next_nx, next_ret, rdS_0, rdS_s, Option.isSome_some, if_true, Bool.false_eq_true, if_false, lnts, callO, back, endF, readAll, Option.map_some, Option.bind_some, List.set_cons_zero, List.set_cons_succ, asgT, Dt.truthy, oF_add, oF_sub, oF_neg, oF_eq, oF_ne, oF_lt, oF_gt, oF_le, oF_ge, oF_in, oF_nin, oF_isN, oF_notN, oF_idx, oF_slice, oF_sliceL, oF_sliceH, oF_rev, oF_len, oF_int, oF_min2, oF_max2, oF_list, oF_tuple, oF_sorted, oF_all, oF_any, oF_isInt, oF_isBool, oF_isTuple, oF_isList, oF_isStr, oF_range1, oF_range2, oF_count, oF_index, oF_index3, opR_f, dB_s, fAdd_ii, fSub_ii, fNeg_i, fLen_L, fLen_T, fLen_D, fInt_i, dLt_ii, dGt_ii, dLe_ii, fIdx_L, fIdx_T, fRev_L, fRev_T, fList_L, fList_T, fTuple_L, fTuple_T, fMin2_ii, fMax2_ii, fSlH_T, fSlL_T, fSlH_L, fSlL_L, at_0, at_1, dEq_ii, dEq_bb, dEq_tw, dIn_tw, dIn_iT, dIn_iL, evE_chn, evE_meth, chnO_t, chnO_f, evL_meth, evL_mut, evL_chn, evS_unp, evS_fgt, isIntD, isBoolD, isTupleD, isListD, isSeqD, Bool.not_true, Bool.not_false, items1, itemsF, Dt.listOf, decide_true, decide_false, f2, hp]⟩]
  simp only [evS_seq, evS_skip, evS_frz, evS_set, evS_exp, evS_ret, evS_ite, evS_par, evS_putS, evS_putA, evS_for, evT_op, evT_call, evT_var, evT_bl, evT_and, evT_or, evT_not, evE_var, evE_non, evE_bl, evE_int, evE_str, evE_op, evE_and, evE_or, evE_not, evE_ite, evE_tup, evE_lst, fin0, fin1, fin2, fin3, evE_dsp, evE_call, evE_mut, evE_lc, evE_lc2, evE_dc, evL_nil, evL_pk, evL_lnt, evL_var, evL_non, evL_bl, evL_int, evL_str, evL_op, evL_tup, evL_lst, evL_call, evL_lc, evL_lc2, evL_dc, evL_ite, evL_and, evL_or, evL_not, bind_ok, ofE_ok, ofO_some, next_nx, next_ret, rdS_0, rdS_s, Option.isSome_some, if_true, Bool.false_eq_true, if_false, lnts, callO, back, endF, readAll, Option.map_some, Option.bind_some, List.set_cons_zero, List.set_cons_succ, asgT, Dt.truthy, oF_add, oF_sub, oF_neg, oF_eq, oF_ne, oF_lt, oF_gt, oF_le, oF_ge, oF_in, oF_nin, oF_isN, oF_notN, oF_idx, oF_slice, oF_sliceL, oF_sliceH, oF_rev, oF_len, oF_int, oF_min2, oF_max2, oF_list, oF_tuple, oF_sorted, oF_all, oF_any, oF_isInt, oF_isBool, oF_isTuple, oF_isList, oF_isStr, oF_range1, oF_range2, oF_count, oF_index, oF_index3, opR_f, dB_s, fAdd_ii, fSub_ii, fNeg_i, fLen_L, fLen_T, fLen_D, fInt_i, dLt_ii, dGt_ii, dLe_ii, fIdx_L, fIdx_T, fRev_L, fRev_T, fList_L, fList_T, fTuple_L, fTuple_T, fMin2_ii, fMax2_ii, fSlH_T, fSlL_T, fSlH_L, fSlL_L, at_0, at_1, dEq_ii, dEq_bb, dEq_tw, dIn_tw, dIn_iT, dIn_iL, evE_chn, evE_meth, chnO_t, chnO_f, evL_meth, evL_mut, evL_chn, evS_unp, evS_fgt, isIntD, isBoolD, isTupleD, isListD, isSeqD, Bool.not_true, Bool.not_false, items1, itemsF, Dt.listOf, decide_true, decide_false, fAll_map (fun _ : D => true), List.all_cons, List.all_nil, Bool.and_true, f6 (k + 2), e, Option.map_some]
theorem f7 (k : Nat) (n : Int) (ps ds : List (Int × Int)) (h : WebOk n ps) (hd : DirOk n ps ds) : Dt.run P0 12 (k + 4) 7 [.tuple [.int n, tws ps], tws ds] = .ret (.bool true) [] := by
  obtain ⟨σ', q1, _, o2, o3, rfl⟩ := for_inv (f := forF ⟨Dt.run P0 12 (k + 3), 12, P0.sub⟩ (.cons (.v 2) (.cons (.v 3) .nil)) bD) (items := (ps.zip ds).map fun p => .tuple [tw p.1, tw p.2]) (σ := [some (.tuple [.int n, tws ps]), some (tws ds), none, none, none])
    (fun rest σ => (∀ d ∈ rest, ∃ p a b, d = .tuple [tw p, tw (a, b)] ∧ tie a b = p ∧ 0 ≤ p.1 ∧ p.1 < p.2 ∧ p.2 < n) ∧ ∃ o2 o3 : Option D, σ = [some (.tuple [.int n, tws ps]), some (tws ds), o2, o3, none])
    ⟨fun d hd' => by
      obtain ⟨⟨p, a, b⟩, hp, rfl⟩ := List.mem_map.mp hd'
      exact ⟨p, a, b, rfl, hd.each _ hp, h.mem p (List.of_mem_zip hp).1⟩, none, none, rfl⟩ (by
      rintro d rest σ _ ⟨r1, o2, o3, rfl⟩
      obtain ⟨p, a, b, rfl, e, h1⟩ := r1 d (List.mem_cons_self ..)
      exact ⟨_, .inl (s_dir k n ps ds p a b o2 o3 e h1), fun d hd => r1 d (List.mem_cons_of_mem _ hd), _, _, rfl⟩)
  have el : ((ds.map tw).length : Int) = ((ps.map tw).length : Int) := by rw [List.length_map, List.length_map, hd.len]
  rw [run_are_directions_in]
  unfold b_are_directions_in
  simp only [evS_seq, evS_skip, evS_frz, evS_set, evS_exp, evS_ret, evS_ite, evS_par, evS_putS, evS_putA, evS_for, evT_op, evT_call, evT_var, evT_bl, evT_and, evT_or, evT_not, evE_var, evE_non, evE_bl, evE_int, evE_str, evE_op, evE_and, evE_or, evE_not, evE_ite, evE_tup, evE_lst, fin0, fin1, fin2, fin3, evE_dsp, evE_call, evE_mut, evE_lc, evE_lc2, evE_dc, evL_nil, evL_pk, evL_lnt, evL_var, evL_non, evL_bl, evL_int, evL_str, evL_op, evL_tup, evL_lst, evL_call, evL_lc, evL_lc2, evL_dc, evL_ite, evL_and, evL_or, evL_not, bind_ok, ofE_ok, ofO_some, next_nx, next_ret, rdS_0, rdS_s, Option.isSome_some, if_true, Bool.false_eq_true, if_false, lnts, callO, back, endF, readAll, Option.map_some, Option.bind_some, List.set_cons_zero, List.set_cons_succ, asgT, Dt.truthy, oF_add, oF_sub, oF_neg, oF_eq, oF_ne, oF_lt, oF_gt, oF_le, oF_ge, oF_in, oF_nin, oF_isN, oF_notN, oF_idx, oF_slice, oF_sliceL, oF_sliceH, oF_rev, oF_len, oF_int, oF_min2, oF_max2, oF_list, oF_tuple, oF_sorted, oF_all, oF_any, oF_isInt, oF_isBool, oF_isTuple, oF_isList, oF_isStr, oF_range1, oF_range2, oF_count, oF_index, oF_index3, opR_f, dB_s, fAdd_ii, fSub_ii, fNeg_i, fLen_L, fLen_T, fLen_D, fInt_i, dLt_ii, dGt_ii, dLe_ii, fIdx_L, fIdx_T, fRev_L, fRev_T, fList_L, fList_T, fTuple_L, fTuple_T, fMin2_ii, fMax2_ii, fSlH_T, fSlL_T, fSlH_L, fSlL_L, at_0, at_1, dEq_ii, dEq_bb, dEq_tw, dIn_tw, dIn_iT, dIn_iL, evE_chn, evE_meth, chnO_t, chnO_f, evL_meth, evL_mut, evL_chn, evS_unp, evS_fgt, isIntD, isBoolD, isTupleD, isListD, isSeqD, Bool.not_true, Bool.not_false, items1, itemsF, Dt.listOf, decide_true, decide_false, el, Option.map_some, itZp, zip_tw]
  rw [q1]
  simp only [evS_seq, evS_skip, evS_frz, evS_set, evS_exp, evS_ret, evS_ite, evS_par, evS_putS, evS_putA, evS_for, evT_op, evT_call, evT_var, evT_bl, evT_and, evT_or, evT_not, evE_var, evE_non, evE_bl, evE_int, evE_str, evE_op, evE_and, evE_or, evE_not, evE_ite, evE_tup, evE_lst, fin0, fin1, fin2, fin3, evE_dsp, evE_call, evE_mut, evE_lc, evE_lc2, evE_dc, evL_nil, evL_pk, evL_lnt, evL_var, evL_non, evL_bl, evL_int, evL_str, evL_op, evL_tup, evL_lst, evL_call, evL_lc, evL_lc2, evL_dc, evL_ite, evL_and, evL_or, evL_not, bind_ok, ofE_ok, ofO_some, next_nx, next_ret, rdS_0, rdS_s, Option.isSome_some, if_true, Bool.false_eq_true, if_false, lnts, callO, back, endF, readAll, Option.map_some, Option.bind_some, List.set_cons_zero, List.set_cons_succ, asgT, Dt.truthy, oF_add, oF_sub, oF_neg, oF_eq, oF_ne, oF_lt, oF_gt, oF_le, oF_ge, oF_in, oF_nin, oF_isN, oF_notN, oF_idx, oF_slice, oF_sliceL, oF_sliceH, oF_rev, oF_len, oF_int, oF_min2, oF_max2, oF_list, oF_tuple, oF_sorted, oF_all, oF_any, oF_isInt, oF_isBool, oF_isTuple, oF_isList, oF_isStr, oF_range1, oF_range2, oF_count, oF_index, oF_index3, opR_f, dB_s, fAdd_ii, fSub_ii, fNeg_i, fLen_L, fLen_T, fLen_D, fInt_i, dLt_ii, dGt_ii, dLe_ii, fIdx_L, fIdx_T, fRev_L, fRev_T, fList_L, fList_T, fTuple_L, fTuple_T, fMin2_ii, fMax2_ii, fSlH_T, fSlL_T, fSlH_L, fSlL_L, at_0, at_1, dEq_ii, dEq_bb, dEq_tw, dIn_tw, dIn_iT, dIn_iL, evE_chn, evE_meth, chnO_t, chnO_f, evL_meth, evL_mut, evL_chn, evS_unp, evS_fgt, isIntD, isBoolD, isTupleD, isListD, isSeqD, Bool.not_true, Bool.not_false, items1, itemsF, Dt.listOf, decide_true, decide_false]
theorem f8 (k : Nat) (n : Int) (ps ds : List (Int × Int)) (h : WebOk n ps) (hd : DirOk n ps ds) : Dt.run P0 12 (k + 7) 8 [.tuple [.int n, tws ps], tws ds] = .ret .none [] := by
  rw [run_need_directions]
  unfold b_need_directions
  simp only [evS_seq, evS_skip, evS_frz, evS_set, evS_exp, evS_ret, evS_ite, evS_par, evS_putS, evS_putA, evS_for, evT_op, evT_call, evT_var, evT_bl, evT_and, evT_or, evT_not, evE_var, evE_non, evE_bl, evE_int, evE_str, evE_op, evE_and, evE_or, evE_not, evE_ite, evE_tup, evE_lst, fin0, fin1, fin2, fin3, evE_dsp, evE_call, evE_mut, evE_lc, evE_lc2, evE_dc, evL_nil, evL_pk, evL_lnt, evL_var, evL_non, evL_bl, evL_int, evL_str, evL_op, evL_tup, evL_lst, evL_call, evL_lc, evL_lc2, evL_dc, evL_ite, evL_and, evL_or, evL_not, bind_ok, ofE_ok, ofO_some, next_nx, next_ret, rdS_0, rdS_s, Option.isSome_some, if_true, Bool.false_eq_true, if_false, lnts, callO, back, endF, readAll, Option.map_some, Option.bind_some, List.set_cons_zero, List.set_cons_succ, asgT, Dt.truthy, oF_add, oF_sub, oF_neg, oF_eq, oF_ne, oF_lt, oF_gt, oF_le, oF_ge, oF_in, oF_nin, oF_isN, oF_notN, oF_idx, oF_slice, oF_sliceL, oF_sliceH, oF_rev, oF_len, oF_int, oF_min2, oF_max2, oF_list, oF_tuple, oF_sorted, oF_all, oF_any, oF_isInt, oF_isBool, oF_isTuple, oF_isList, oF_isStr, oF_range1, oF_range2, oF_count, oF_index, oF_index3, opR_f, dB_s, fAdd_ii, fSub_ii, fNeg_i, fLen_L, fLen_T, fLen_D, fInt_i, dLt_ii, dGt_ii, dLe_ii, fIdx_L, fIdx_T, fRev_L, fRev_T, fList_L, fList_T, fTuple_L, fTuple_T, fMin2_ii, fMax2_ii, fSlH_T, fSlL_T, fSlH_L, fSlL_L, at_0, at_1, dEq_ii, dEq_bb, dEq_tw, dIn_tw, dIn_iT, dIn_iL, evE_chn, evE_meth, chnO_t, chnO_f, evL_meth, evL_mut, evL_chn, evS_unp, evS_fgt, isIntD, isBoolD, isTupleD, isListD, isSeqD, Bool.not_true, Bool.not_false, items1, itemsF, Dt.listOf, decide_true, decide_false, f5 k n ps h, f7 (k + 2) n ps ds h hd]
theorem f19 (k : Nat) (b c : Bool) : Dt.run P0 12 (k + 1) 19 [.bool b, .bool c] = .ret (.bool (decide (b = c))) [] := by
  rw [run__law_is]
  unfold b__law_is
  simp only [evS_seq, evS_skip, evS_frz, evS_set, evS_exp, evS_ret, evS_ite, evS_par, evS_putS, evS_putA, evS_for, evT_op, evT_call, evT_var, evT_bl, evT_and, evT_or, evT_not, evE_var, evE_non, evE_bl, evE_int, evE_str, evE_op, evE_and, evE_or, evE_not, evE_ite, evE_tup, evE_lst, fin0, fin1, fin2, fin3, evE_dsp, evE_call, evE_mut, evE_lc, evE_lc2, evE_dc, evL_nil, evL_pk, evL_lnt, evL_var, evL_non, evL_bl, evL_int, evL_str, evL_op, evL_tup, evL_lst, evL_call, evL_lc, evL_lc2, evL_dc, evL_ite, evL_and, evL_or, evL_not, bind_ok, ofE_ok, ofO_some, next_nx, next_ret, rdS_0, rdS_s, Option.isSome_some, if_true, Bool.false_eq_true, if_false, lnts, callO, back, endF, readAll, Option.map_some, Option.bind_some, List.set_cons_zero, List.set_cons_succ, asgT, Dt.truthy, oF_add, oF_sub, oF_neg, oF_eq, oF_ne, oF_lt, oF_gt, oF_le, oF_ge, oF_in, oF_nin, oF_isN, oF_notN, oF_idx, oF_slice, oF_sliceL, oF_sliceH, oF_rev, oF_len, oF_int, oF_min2, oF_max2, oF_list, oF_tuple, oF_sorted, oF_all, oF_any, oF_isInt, oF_isBool, oF_isTuple, oF_isList, oF_isStr, oF_range1, oF_range2, oF_count, oF_index, oF_index3, opR_f, dB_s, fAdd_ii, fSub_ii, fNeg_i, fLen_L, fLen_T, fLen_D, fInt_i, dLt_ii, dGt_ii, dLe_ii, fIdx_L, fIdx_T, fRev_L, fRev_T, fList_L, fList_T, fTuple_L, fTuple_T, fMin2_ii, fMax2_ii, fSlH_T, fSlL_T, fSlH_L, fSlL_L, at_0, at_1, dEq_ii, dEq_bb, dEq_tw, dIn_tw, dIn_iT, dIn_iL, evE_chn, evE_meth, chnO_t, chnO_f, evL_meth, evL_mut, evL_chn, evS_unp, evS_fgt, isIntD, isBoolD, isTupleD, isListD, isSeqD, Bool.not_true, Bool.not_false, items1, itemsF, Dt.listOf, decide_true, decide_false]
theorem judged (n : Int) (ps ds : List (Int × Int)) (h : WebOk n ps) (hd : DirOk n ps ds) (v : D) (hv : Vok v) :
    (∃ r : Bool, ∀ k : Nat, Dt.run P0 12 (k + 9) 13 [.tuple [.int n, tws ps], tws ds, v] = .ret (.bool r) [] ∧ Dt.run P0 12 (k + 9) 25 [.int n, tws ds, v] = .ret (.bool r) []) ∧
    ∃ r : Bool, ∀ k : Nat, Dt.run P0 12 (k + 9) 14 [.tuple [.int n, tws ps], tws ds, v] = .ret (.bool r) [] ∧ Dt.run P0 12 (k + 9) 27 [.tuple [.int n, tws ps], tws ds, v] = .ret (.bool r) [] := by
  obtain ⟨r, hr⟩ := run_same n ds v hv
  obtain ⟨s, hs⟩ := short_same n ps ds v hv
  refine ⟨⟨r, fun k => ⟨?_, (hr (k + 4)).2⟩⟩, s, fun k => ⟨?_, (hs (k + 4)).2⟩⟩
  · rw [run_is_run]
    unfold b_is_run
    simp only [evS_seq, evS_skip, evS_frz, evS_set, evS_exp, evS_ret, evS_ite, evS_par, evS_putS, evS_putA, evS_for, evT_op, evT_call, evT_var, evT_bl, evT_and, evT_or, evT_not, evE_var, evE_non, evE_bl, evE_int, evE_str, evE_op, evE_and, evE_or, evE_not, evE_ite, evE_tup, evE_lst, fin0, fin1, fin2, fin3, evE_dsp, evE_call, evE_mut, evE_lc, evE_lc2, evE_dc, evL_nil, evL_pk, evL_lnt, evL_var, evL_non, evL_bl, evL_int, evL_str, evL_op, evL_tup, evL_lst, evL_call, evL_lc, evL_lc2, evL_dc, evL_ite, evL_and, evL_or, evL_not, bind_ok, ofE_ok, ofO_some, next_nx, next_ret, rdS_0, rdS_s, Option.isSome_some, if_true, Bool.false_eq_true, if_false, lnts, callO, back, endF, readAll, Option.map_some, Option.bind_some, List.set_cons_zero, List.set_cons_succ, asgT, Dt.truthy, oF_add, oF_sub, oF_neg, oF_eq, oF_ne, oF_lt, oF_gt, oF_le, oF_ge, oF_in, oF_nin, oF_isN, oF_notN, oF_idx, oF_slice, oF_sliceL, oF_sliceH, oF_rev, oF_len, oF_int, oF_min2, oF_max2, oF_list, oF_tuple, oF_sorted, oF_all, oF_any, oF_isInt, oF_isBool, oF_isTuple, oF_isList, oF_isStr, oF_range1, oF_range2, oF_count, oF_index, oF_index3, opR_f, dB_s, fAdd_ii, fSub_ii, fNeg_i, fLen_L, fLen_T, fLen_D, fInt_i, dLt_ii, dGt_ii, dLe_ii, fIdx_L, fIdx_T, fRev_L, fRev_T, fList_L, fList_T, fTuple_L, fTuple_T, fMin2_ii, fMax2_ii, fSlH_T, fSlL_T, fSlH_L, fSlL_L, at_0, at_1, dEq_ii, dEq_bb, dEq_tw, dIn_tw, dIn_iT, dIn_iL, evE_chn, evE_meth, chnO_t, chnO_f, evL_meth, evL_mut, evL_chn, evS_unp, evS_fgt, isIntD, isBoolD, isTupleD, isListD, isSeqD, Bool.not_true, Bool.not_false, items1, itemsF, Dt.listOf, decide_true, decide_false, f8 (k + 1) n ps ds h hd, (hr (k + 3)).1]
  · rw [run_is_shortcut]
    unfold b_is_shortcut
    simp only [evS_seq, evS_skip, evS_frz, evS_set, evS_exp, evS_ret, evS_ite, evS_par, evS_putS, evS_putA, evS_for, evT_op, evT_call, evT_var, evT_bl, evT_and, evT_or, evT_not, evE_var, evE_non, evE_bl, evE_int, evE_str, evE_op, evE_and, evE_or, evE_not, evE_ite, evE_tup, evE_lst, fin0, fin1, fin2, fin3, evE_dsp, evE_call, evE_mut, evE_lc, evE_lc2, evE_dc, evL_nil, evL_pk, evL_lnt, evL_var, evL_non, evL_bl, evL_int, evL_str, evL_op, evL_tup, evL_lst, evL_call, evL_lc, evL_lc2, evL_dc, evL_ite, evL_and, evL_or, evL_not, bind_ok, ofE_ok, ofO_some, next_nx, next_ret, rdS_0, rdS_s, Option.isSome_some, if_true, Bool.false_eq_true, if_false, lnts, callO, back, endF, readAll, Option.map_some, Option.bind_some, List.set_cons_zero, List.set_cons_succ, asgT, Dt.truthy, oF_add, oF_sub, oF_neg, oF_eq, oF_ne, oF_lt, oF_gt, oF_le, oF_ge, oF_in, oF_nin, oF_isN, oF_notN, oF_idx, oF_slice, oF_sliceL, oF_sliceH, oF_rev, oF_len, oF_int, oF_min2, oF_max2, oF_list, oF_tuple, oF_sorted, oF_all, oF_any, oF_isInt, oF_isBool, oF_isTuple, oF_isList, oF_isStr, oF_range1, oF_range2, oF_count, oF_index, oF_index3, opR_f, dB_s, fAdd_ii, fSub_ii, fNeg_i, fLen_L, fLen_T, fLen_D, fInt_i, dLt_ii, dGt_ii, dLe_ii, fIdx_L, fIdx_T, fRev_L, fRev_T, fList_L, fList_T, fTuple_L, fTuple_T, fMin2_ii, fMax2_ii, fSlH_T, fSlL_T, fSlH_L, fSlL_L, at_0, at_1, dEq_ii, dEq_bb, dEq_tw, dIn_tw, dIn_iT, dIn_iL, evE_chn, evE_meth, chnO_t, chnO_f, evL_meth, evL_mut, evL_chn, evS_unp, evS_fgt, isIntD, isBoolD, isTupleD, isListD, isSeqD, Bool.not_true, Bool.not_false, items1, itemsF, Dt.listOf, decide_true, decide_false, f8 (k + 1) n ps ds h hd, (hs (k + 3)).1]
end K14
end
section
set_option Elab.async false
set_option linter.all false
set_option maxRecDepth 100000
set_option maxHeartbeats 4000000
namespace K14
open PySem Dt
theorem e_popAt {rs : List D} {j : Nat} (h : j < rs.length) (hl : rs.length ≤ 100000) : mopF .popAt (.list rs) [.int (j : Nat)] = some (rs[j], .list (rs.eraseIdx j)) := by
  have b : -(2 ^ 63) ≤ ((j : Nat) : Int) ∧ ((j : Nat) : Int) < 2 ^ 63 := ⟨by omega, by omega⟩
  rw [mopF, if_pos b]
  unfold ixD
  rw [if_pos (by omega), if_pos (by omega), Option.bind_some, Int.toNat_natCast, List.getElem?_eq_getElem h]
  rfl
theorem mutO_ok {o : Mop} {i : Nat} {ds : List D} {σ : Sl} {r x r' : D} (h1 : rdS σ i = some r) (h2 : mopF o r ds = some (x, r')) : mutO o i ds σ = .ok x (σ.set i (some r')) := by
  unfold mutO
  rw [h1]
  simp only
  rw [h2]
theorem e_appD {fs : List D} {d : D} (hl : fs.length ≤ 100000) : mopF .append (.list fs) [d] = some (.none, .list (fs ++ [d])) := by
  show (if fs.length < sizeLine then some (PyData.none, PyData.list (fs ++ [d])) else none) = _
  rw [if_pos (by rw [sl24]; omega)]
theorem f_pick (k : Nat) {p : D} {c : Int} (l : List D) (g : Gp c p) (hc : c + 1 ≤ 1000000) (h0 : 0 < l.length) (h1 : l.length ≤ 1000) :
    ∃ (j : Nat) (hj : j < l.length) (p' : D), Dt.run P0 12 (k + 2) 17 [p, .list l] = .ret l[j] [p'] ∧ Gp (c + 1) p' := by
  obtain ⟨r, p', e, r1, r2, g'⟩ := f_draw k (many := (l.length : Nat)) g hc (by omega) (by omega)
  obtain ⟨j, rfl⟩ : ∃ j : Nat, r = j := ⟨r.toNat, by omega⟩
  have hj : j < l.length := by omega
  refine ⟨j, hj, p', ?_, g'⟩
  rw [run__law_pick]
  unfold b__law_pick
  simp only [evS_seq, evS_skip, evS_frz, evS_set, evS_exp, evS_ret, evS_ite, evS_par, evS_putS, evS_putA, evS_for, evT_op, evT_call, evT_var, evT_bl, evT_and, evT_or, evT_not, evE_var, evE_non, evE_bl, evE_int, evE_str, evE_op, evE_and, evE_or, evE_not, evE_ite, evE_tup, evE_lst, fin0, fin1, fin2, fin3, evE_dsp, evE_call, evE_mut, evE_lc, evE_lc2, evE_dc, evL_nil, evL_pk, evL_lnt, evL_var, evL_non, evL_bl, evL_int, evL_str, evL_op, evL_tup, evL_lst, evL_call, evL_lc, evL_lc2, evL_dc, evL_ite, evL_and, evL_or, evL_not, bind_ok, ofE_ok, ofO_some, next_nx, next_ret, rdS_0, rdS_s, Option.isSome_some, if_true, Bool.false_eq_true, if_false, lnts, callO, back, endF, readAll, Option.map_some, Option.bind_some, List.set_cons_zero, List.set_cons_succ, asgT, Dt.truthy, oF_add, oF_sub, oF_neg, oF_eq, oF_ne, oF_lt, oF_gt, oF_le, oF_ge, oF_in, oF_nin, oF_isN, oF_notN, oF_idx, oF_slice, oF_sliceL, oF_sliceH, oF_rev, oF_len, oF_int, oF_min2, oF_max2, oF_list, oF_tuple, oF_sorted, oF_all, oF_any, oF_isInt, oF_isBool, oF_isTuple, oF_isList, oF_isStr, oF_range1, oF_range2, oF_count, oF_index, oF_index3, opR_f, dB_s, fAdd_ii, fSub_ii, fNeg_i, fLen_L, fLen_T, fLen_D, fInt_i, dLt_ii, dGt_ii, dLe_ii, fIdx_L, fIdx_T, fRev_L, fRev_T, fList_L, fList_T, fTuple_L, fTuple_T, fMin2_ii, fMax2_ii, fSlH_T, fSlL_T, fSlH_L, fSlL_L, at_0, at_1, dEq_ii, dEq_bb, dEq_tw, dIn_tw, dIn_iT, dIn_iL, evE_chn, evE_meth, chnO_t, chnO_f, evL_meth, evL_mut, evL_chn, evS_unp, evS_fgt, isIntD, isBoolD, isTupleD, isListD, isSeqD, Bool.not_true, Bool.not_false, items1, itemsF, Dt.listOf, decide_true, decide_false, e, at_nat hj]
abbrev bM : S := (.seq (.exp (.mut .append 3 (.cons (.mut .popAt 2 (.cons (.call 16 (.cons (.lnt 0) (.cons (.op .len false (.cons (.pk 2) .nil)) .nil))) .nil)) .nil))) .skip)
theorem s_mix (k : Nat) {p : D} {c : Int} (l rs fs : List D) (o4 : Option D) (d : D) (g : Gp c p) (hc : c + 1 ≤ 1000000) (h0 : 0 < rs.length) (h1 : rs.length ≤ 1000) (h2 : fs.length ≤ 1000) :
    ∃ (j : Nat) (hj : j < rs.length) (p' : D), Gp (c + 1) p' ∧ forF ⟨Dt.run P0 12 (k + 1), 12, P0.sub⟩ (.v 4) bM d [some p, some (.list l), some (.list rs), some (.list fs), o4] = .nx [some p', some (.list l), some (.list (rs.eraseIdx j)), some (.list (fs ++ [rs[j]])), some d] := by
  obtain ⟨r, p', e, r1, r2, g'⟩ := f_draw k (many := (rs.length : Nat)) g hc (by omega) (by omega)
  obtain ⟨j, rfl⟩ : ∃ j : Nat, r = j := ⟨r.toNat, by omega⟩
  have hj : j < rs.length := by omega
  refine ⟨j, hj, p', g', ?_⟩
  have e1 := e_popAt hj (by omega)
  have e2 : mopF .append (.list fs) [rs[j]] = some (.none, .list (fs ++ [rs[j]])) := e_appD (by omega)
  have m1 : mutO .popAt 2 [.int (j : Nat)] [some p', some (.list l), some (.list rs), some (.list fs), some d] = .ok rs[j] [some p', some (.list l), some (.list (rs.eraseIdx j)), some (.list fs), some d] := mutO_ok rfl e1
  have m2 : mutO .append 3 [rs[j]] [some p', some (.list l), some (.list (rs.eraseIdx j)), some (.list fs), some d] = .ok .none [some p', some (.list l), some (.list (rs.eraseIdx j)), some (.list (fs ++ [rs[j]])), some d] := mutO_ok rfl e2
  unfold forF
  simp only [evS_seq, evS_skip, evS_frz, evS_set, evS_exp, evS_ret, evS_ite, evS_par, evS_putS, evS_putA, evS_for, evT_op, evT_call, evT_var, evT_bl, evT_and, evT_or, evT_not, evE_var, evE_non, evE_bl, evE_int, evE_str, evE_op, evE_and, evE_or, evE_not, evE_ite, evE_tup, evE_lst, fin0, fin1, fin2, fin3, evE_dsp, evE_call, evE_mut, evE_lc, evE_lc2, evE_dc, evL_nil, evL_pk, evL_lnt, evL_var, evL_non, evL_bl, evL_int, evL_str, evL_op, evL_tup, evL_lst, evL_call, evL_lc, evL_lc2, evL_dc, evL_ite, evL_and, evL_or, evL_not, bind_ok, ofE_ok, ofO_some, next_nx, next_ret, rdS_0, rdS_s, Option.isSome_some, if_true, Bool.false_eq_true, if_false, lnts, callO, back, endF, readAll, Option.map_some, Option.bind_some, List.set_cons_zero, List.set_cons_succ, asgT, Dt.truthy, oF_add, oF_sub, oF_neg, oF_eq, oF_ne, oF_lt, oF_gt, oF_le, oF_ge, oF_in, oF_nin, oF_isN, oF_notN, oF_idx, oF_slice, oF_sliceL, oF_sliceH, oF_rev, oF_len, oF_int, oF_min2, oF_max2, oF_list, oF_tuple, oF_sorted, oF_all, oF_any, oF_isInt, oF_isBool, oF_isTuple, oF_isList, oF_isStr, oF_range1, oF_range2, oF_count, oF_index, oF_index3, opR_f, dB_s, fAdd_ii, fSub_ii, fNeg_i, fLen_L, fLen_T, fLen_D, fInt_i, dLt_ii, dGt_ii, dLe_ii, fIdx_L, fIdx_T, fRev_L, fRev_T, fList_L, fList_T, fTuple_L, fTuple_T, fMin2_ii, fMax2_ii, fSlH_T, fSlL_T, fSlH_L, fSlL_L, at_0, at_1, dEq_ii, dEq_bb, dEq_tw, dIn_tw, dIn_iT, dIn_iL, evE_chn, evE_meth, chnO_t, chnO_f, evL_meth, evL_mut, evL_chn, evS_unp, evS_fgt, isIntD, isBoolD, isTupleD, isListD, isSeqD, Bool.not_true, Bool.not_false, items1, itemsF, Dt.listOf, decide_true, decide_false, isLs, e, m1, m2]
theorem erase_perm {rs : List D} {j : Nat} (h : j < rs.length) : (rs[j] :: rs.eraseIdx j).Perm rs := by
  rw [List.eraseIdx_eq_take_drop_succ]
  have e : rs = rs.take j ++ rs[j] :: rs.drop (j + 1) := by
    rw [← List.drop_eq_getElem_cons h, List.take_append_drop]
  conv => rhs; rw [e]
  exact List.perm_middle.symm
theorem f_mixed (k : Nat) {p : D} {c : Int} (l : List D) (g : Gp c p) (hc : c + 200 ≤ 1000000) (hl : l.length ≤ 100) : ∃ (fs : List D) (p' : D), Dt.run P0 12 (k + 2) 18 [p, .list l] = .ret (.list fs) [p'] ∧ fs.Perm l ∧ Gp (c + l.length) p' := by
  obtain ⟨σ', q1, rs, fs, p', o4, rfl, q3, q4, q5⟩ := for_inv (f := forF ⟨Dt.run P0 12 (k + 1), 12, P0.sub⟩ (.v 4) bM) (items := rangeD 0 (l.length : Nat)) (σ := [some p, some (.list l), some (.list l), some (.list []), none])
    (fun rest σ => ∃ (rs fs : List D) (p' : D) (o4 : Option D), σ = [some p', some (.list l), some (.list rs), some (.list fs), o4] ∧ rs.length = rest.length ∧ (fs ++ rs).Perm l ∧ Gp (c + l.length - rs.length) p')
    ⟨l, [], p, none, rfl, by rw [rg_len]; omega, List.Perm.refl _, by rw [show c + (l.length : Int) - l.length = c by omega]; exact g⟩ (by
      rintro d rest σ _ ⟨rs, fs, p', o4, rfl, e1, e2, e3⟩
      rw [List.length_cons] at e1
      have tl := e2.length_eq
      rw [List.length_append] at tl
      obtain ⟨j, hj, p2, g2, st⟩ := s_mix k l rs fs o4 d e3 (by omega) (by omega) (by omega) (by omega)
      refine ⟨_, .inl st, _, _, p2, _, rfl, ?_, ?_, ?_⟩
      · rw [List.length_eraseIdx, if_pos hj]; omega
      · refine List.Perm.trans ?_ e2
        rw [List.append_assoc]
        exact List.Perm.append_left fs (erase_perm hj)
      · have : c + (l.length : Int) - ((rs.eraseIdx j).length : Nat) = c + (l.length : Int) - rs.length + 1 := by
          rw [List.length_eraseIdx, if_pos hj]; omega
        rw [this]
        exact g2)
  cases rs with
  | cons _ _ => cases q3
  | nil =>
    refine ⟨fs, p', ?_, by simpa using q4, by simpa using q5⟩
    have lt : opR .list true [PyData.list l] = some (.list l) := opR_t rfl rfl
    rw [run__law_mixed]
    unfold b__law_mixed
    simp only [evS_seq, evS_skip, evS_frz, evS_set, evS_exp, evS_ret, evS_ite, evS_par, evS_putS, evS_putA, evS_for, evT_op, evT_call, evT_var, evT_bl, evT_and, evT_or, evT_not, evE_var, evE_non, evE_bl, evE_int, evE_str, evE_op, evE_and, evE_or, evE_not, evE_ite, evE_tup, evE_lst, fin0, fin1, fin2, fin3, evE_dsp, evE_call, evE_mut, evE_lc, evE_lc2, evE_dc, evL_nil, evL_pk, evL_lnt, evL_var, evL_non, evL_bl, evL_int, evL_str, evL_op, evL_tup, evL_lst, evL_call, evL_lc, evL_lc2, evL_dc, evL_ite, evL_and, evL_or, evL_not, bind_ok, ofE_ok, ofO_some, next_nx, next_ret, rdS_0, rdS_s, Option.isSome_some, if_true, Bool.false_eq_true, if_false, lnts, callO, back, endF, readAll, Option.map_some, Option.bind_some, List.set_cons_zero, List.set_cons_succ, asgT, Dt.truthy, oF_add, oF_sub, oF_neg, oF_eq, oF_ne, oF_lt, oF_gt, oF_le, oF_ge, oF_in, oF_nin, oF_isN, oF_notN, oF_idx, oF_slice, oF_sliceL, oF_sliceH, oF_rev, oF_len, oF_int, oF_min2, oF_max2, oF_list, oF_tuple, oF_sorted, oF_all, oF_any, oF_isInt, oF_isBool, oF_isTuple, oF_isList, oF_isStr, oF_range1, oF_range2, oF_count, oF_index, oF_index3, opR_f, dB_s, fAdd_ii, fSub_ii, fNeg_i, fLen_L, fLen_T, fLen_D, fInt_i, dLt_ii, dGt_ii, dLe_ii, fIdx_L, fIdx_T, fRev_L, fRev_T, fList_L, fList_T, fTuple_L, fTuple_T, fMin2_ii, fMax2_ii, fSlH_T, fSlL_T, fSlH_L, fSlL_L, at_0, at_1, dEq_ii, dEq_bb, dEq_tw, dIn_tw, dIn_iT, dIn_iL, evE_chn, evE_meth, chnO_t, chnO_f, evL_meth, evL_mut, evL_chn, evS_unp, evS_fgt, isIntD, isBoolD, isTupleD, isListD, isSeqD, Bool.not_true, Bool.not_false, items1, itemsF, Dt.listOf, decide_true, decide_false, lt, it_r1 l.length (by omega)]
    rw [q1]
    simp only [evS_seq, evS_skip, evS_frz, evS_set, evS_exp, evS_ret, evS_ite, evS_par, evS_putS, evS_putA, evS_for, evT_op, evT_call, evT_var, evT_bl, evT_and, evT_or, evT_not, evE_var, evE_non, evE_bl, evE_int, evE_str, evE_op, evE_and, evE_or, evE_not, evE_ite, evE_tup, evE_lst, fin0, fin1, fin2, fin3, evE_dsp, evE_call, evE_mut, evE_lc, evE_lc2, evE_dc, evL_nil, evL_pk, evL_lnt, evL_var, evL_non, evL_bl, evL_int, evL_str, evL_op, evL_tup, evL_lst, evL_call, evL_lc, evL_lc2, evL_dc, evL_ite, evL_and, evL_or, evL_not, bind_ok, ofE_ok, ofO_some, next_nx, next_ret, rdS_0, rdS_s, Option.isSome_some, if_true, Bool.false_eq_true, if_false, lnts, callO, back, endF, readAll, Option.map_some, Option.bind_some, List.set_cons_zero, List.set_cons_succ, asgT, Dt.truthy, oF_add, oF_sub, oF_neg, oF_eq, oF_ne, oF_lt, oF_gt, oF_le, oF_ge, oF_in, oF_nin, oF_isN, oF_notN, oF_idx, oF_slice, oF_sliceL, oF_sliceH, oF_rev, oF_len, oF_int, oF_min2, oF_max2, oF_list, oF_tuple, oF_sorted, oF_all, oF_any, oF_isInt, oF_isBool, oF_isTuple, oF_isList, oF_isStr, oF_range1, oF_range2, oF_count, oF_index, oF_index3, opR_f, dB_s, fAdd_ii, fSub_ii, fNeg_i, fLen_L, fLen_T, fLen_D, fInt_i, dLt_ii, dGt_ii, dLe_ii, fIdx_L, fIdx_T, fRev_L, fRev_T, fList_L, fList_T, fTuple_L, fTuple_T, fMin2_ii, fMax2_ii, fSlH_T, fSlL_T, fSlH_L, fSlL_L, at_0, at_1, dEq_ii, dEq_bb, dEq_tw, dIn_tw, dIn_iT, dIn_iL, evE_chn, evE_meth, chnO_t, chnO_f, evL_meth, evL_mut, evL_chn, evS_unp, evS_fgt, isIntD, isBoolD, isTupleD, isListD, isSeqD, Bool.not_true, Bool.not_false, items1, itemsF, Dt.listOf, decide_true, decide_false]
end K14
end
section
set_option Elab.async false
set_option linter.all false
set_option maxRecDepth 100000
set_option maxHeartbeats 4000000
namespace K14
open PySem Dt
theorem rangeD_cons {i n : Int} (h : i < n) : rangeD i n = .int i :: rangeD (i + 1) n := by
  unfold rangeD
  obtain ⟨m, hm⟩ : ∃ m : Nat, (n - i).toNat = m + 1 := ⟨(n - i).toNat - 1, by omega⟩
  rw [hm, show (n - (i + 1)).toNat = m by omega, List.range_succ_eq_map, List.map_cons, List.map_map]
  congr 1
  · simp
  · refine List.map_congr_left fun x _ => ?_
    show PyData.int (i + ((x + 1 : Nat) : Int)) = PyData.int (i + 1 + (x : Int))
    congr 1
    omega
theorem rangeD_nil {i n : Int} (h : n ≤ i) : rangeD i n = [] := by
  unfold rangeD
  rw [show (n - i).toNat = 0 by omega]
  rfl
theorem rangeD_inv {i n : Int} {d : D} {rest : List D} (h : d :: rest = rangeD i n) : i < n ∧ d = .int i ∧ rest = rangeD (i + 1) n := by
  by_cases q : i < n
  · rw [rangeD_cons q] at h
    cases h
    exact ⟨q, rfl, rfl⟩
  · rw [rangeD_nil (by omega)] at h
    cases h
/-! ### the web that is drawn -/
def Bel (i j : Int) (p : Int × Int) : Prop := p.1 < i ∨ (p.1 = i ∧ p.2 < j)
structure Dr (n i j : Int) (ps : List (Int × Int)) : Prop where
  nd : ps.Nodup
  mem : ∀ p ∈ ps, (0 ≤ p.1 ∧ p.1 < p.2 ∧ p.2 < n) ∧ Bel i j p
theorem Dr.put {n i j : Int} {ps : List (Int × Int)} (h : Dr n i j ps) (h0 : 0 ≤ i) (h1 : i < j) (h2 : j < n) : Dr n i (j + 1) (ps ++ [(i, j)]) := by
  refine ⟨?_, fun p hp => ?_⟩
  · refine List.nodup_append.mpr ⟨h.nd, by simp, fun a ha b hb e => ?_⟩
    cases List.mem_singleton.mp hb
    subst e
    have := (h.mem _ ha).2
    unfold Bel at this
    simp only at this
    omega
  · rcases List.mem_append.mp hp with hp | hp
    · obtain ⟨q1, q2⟩ := h.mem p hp
      refine ⟨q1, ?_⟩
      unfold Bel at q2 ⊢
      omega
    · cases List.mem_singleton.mp hp
      exact ⟨⟨h0, h1, h2⟩, .inr ⟨rfl, show j < j + 1 by omega⟩⟩
theorem Dr.mono {n i j i' j' : Int} {ps : List (Int × Int)} (h : Dr n i j ps) (k : ∀ p, Bel i j p → Bel i' j' p) : Dr n i' j' ps := ⟨h.nd, fun p hp => ⟨(h.mem p hp).1, k p (h.mem p hp).2⟩⟩
abbrev bWj : S := (.seq (.ite (.op .lt false (.cons (.call 16 (.cons (.lnt 0) (.cons (.int 12) .nil))) (.cons (.pk 4) .nil)))
  (.seq (.exp (.mut .append 5 (.cons (.tup (.cons (.var 6) (.cons (.var 7) .nil))) .nil)))
  .skip)
  .skip)
  .skip)
abbrev bWi : S := (.seq (.for (.v 7) .range2 (.cons (.op .add false (.cons (.pk 6) (.cons (.int 1) .nil))) (.cons (.var 3) .nil)) bWj) .skip)
abbrev σW (p : D) (n sh : Int) (ps : List (Int × Int)) (o6 o7 : Option D) : Sl := [some p, some (.int 9), some (.int 20), some (.int n), some (.int sh), some (.list (ps.map tw)), o6, o7]
theorem s_webj (k : Nat) {p : D} {c : Int} (n sh i j : Int) (ps : List (Int × Int)) (o7 : Option D) (g : Gp c p) (hc : c + 1 ≤ 1000000) (hl : ps.length ≤ 1000) :
    ∃ (b : Bool) (p' : D), Gp (c + 1) p' ∧ forF ⟨Dt.run P0 12 (k + 1), 12, P0.sub⟩ (.v 7) bWj (.int j) (σW p n sh ps (some (.int i)) o7) = .nx (σW p' n sh (if b then ps ++ [(i, j)] else ps) (some (.int i)) (some (.int j))) := by
  obtain ⟨r, p', e, r1, r2, g'⟩ := f_draw k (many := 12) g hc (by decide) (by decide)
  refine ⟨decide (r < sh), p', g', ?_⟩
  have m1 : mutO .append 5 [.tuple [.int i, .int j]] (σW p' n sh ps (some (.int i)) (some (.int j))) = .ok .none (σW p' n sh (ps ++ [(i, j)]) (some (.int i)) (some (.int j))) := by
    refine mutO_ok (r := .list (ps.map tw)) (r' := .list ((ps ++ [(i, j)]).map tw)) rfl ?_
    rw [e_appD (by rw [List.length_map]; omega), List.map_append]
    rfl
  unfold forF
  cases hb : decide (r < sh) with
  | true => simp only [evS_seq, evS_skip, evS_frz, evS_set, evS_exp, evS_ret, evS_ite, evS_par, evS_putS, evS_putA, evS_for, evT_op, evT_call, evT_var, evT_bl, evT_and, evT_or, evT_not, evE_var, evE_non, evE_bl, evE_int, evE_str, evE_op, evE_and, evE_or, evE_not, evE_ite, evE_tup, evE_lst, fin0, fin1, fin2, fin3, evE_dsp, evE_call, evE_mut, evE_lc, evE_lc2, evE_dc, evL_nil, evL_pk, evL_lnt, evL_var, evL_non, evL_bl, evL_int, evL_str, evL_op, evL_tup, evL_lst, evL_call, evL_lc, evL_lc2, evL_dc, evL_ite, evL_and, evL_or, evL_not, bind_ok, ofE_ok, ofO_some, next_nx, next_ret, rdS_0, rdS_s, Option.isSome_some, if_true, Bool.false_eq_true, if_false, lnts, callO, back, endF, readAll, Option.map_some, Option.bind_some, List.set_cons_zero, List.set_cons_succ, asgT, Dt.truthy, oF_add, oF_sub, oF_neg, oF_eq, oF_ne, oF_lt, oF_gt, oF_le, oF_ge, oF_in, oF_nin, oF_isN, oF_notN, oF_idx, oF_slice, oF_sliceL, oF_sliceH, oF_rev, oF_len, oF_int, oF_min2, oF_max2, oF_list, oF_tuple, oF_sorted, oF_all, oF_any, oF_isInt, oF_isBool, oF_isTuple, oF_isList, oF_isStr, oF_range1, oF_range2, oF_count, oF_index, oF_index3, opR_f, dB_s, fAdd_ii, fSub_ii, fNeg_i, fLen_L, fLen_T, fLen_D, fInt_i, dLt_ii, dGt_ii, dLe_ii, fIdx_L, fIdx_T, fRev_L, fRev_T, fList_L, fList_T, fTuple_L, fTuple_T, fMin2_ii, fMax2_ii, fSlH_T, fSlL_T, fSlH_L, fSlL_L, at_0, at_1, dEq_ii, dEq_bb, dEq_tw, dIn_tw, dIn_iT, dIn_iL, evE_chn, evE_meth, chnO_t, chnO_f, evL_meth, evL_mut, evL_chn, evS_unp, evS_fgt, isIntD, isBoolD, isTupleD, isListD, isSeqD, Bool.not_true, Bool.not_false, items1, itemsF, Dt.listOf, decide_true, decide_false, isLs, e, hb, m1]
  | false => simp only [evS_seq, evS_skip, evS_frz, evS_set, evS_exp, evS_ret, evS_ite, evS_par, evS_putS, evS_putA, evS_for, evT_op, evT_call, evT_var, evT_bl, evT_and, evT_or, evT_not, evE_var, evE_non, evE_bl, evE_int, evE_str, evE_op, evE_and, evE_or, evE_not, evE_ite, evE_tup, evE_lst, fin0, fin1, fin2, fin3, evE_dsp, evE_call, evE_mut, evE_lc, evE_lc2, evE_dc, evL_nil, evL_pk, evL_lnt, evL_var, evL_non, evL_bl, evL_int, evL_str, evL_op, evL_tup, evL_lst, evL_call, evL_lc, evL_lc2, evL_dc, evL_ite, evL_and, evL_or, evL_not, bind_ok, ofE_ok, ofO_some, next_nx, next_ret, rdS_0, rdS_s, Option.isSome_some, if_true, Bool.false_eq_true, if_false, lnts, callO, back, endF, readAll, Option.map_some, Option.bind_some, List.set_cons_zero, List.set_cons_succ, asgT, Dt.truthy, oF_add, oF_sub, oF_neg, oF_eq, oF_ne, oF_lt, oF_gt, oF_le, oF_ge, oF_in, oF_nin, oF_isN, oF_notN, oF_idx, oF_slice, oF_sliceL, oF_sliceH, oF_rev, oF_len, oF_int, oF_min2, oF_max2, oF_list, oF_tuple, oF_sorted, oF_all, oF_any, oF_isInt, oF_isBool, oF_isTuple, oF_isList, oF_isStr, oF_range1, oF_range2, oF_count, oF_index, oF_index3, opR_f, dB_s, fAdd_ii, fSub_ii, fNeg_i, fLen_L, fLen_T, fLen_D, fInt_i, dLt_ii, dGt_ii, dLe_ii, fIdx_L, fIdx_T, fRev_L, fRev_T, fList_L, fList_T, fTuple_L, fTuple_T, fMin2_ii, fMax2_ii, fSlH_T, fSlL_T, fSlH_L, fSlL_L, at_0, at_1, dEq_ii, dEq_bb, dEq_tw, dIn_tw, dIn_iT, dIn_iL, evE_chn, evE_meth, chnO_t, chnO_f, evL_meth, evL_mut, evL_chn, evS_unp, evS_fgt, isIntD, isBoolD, isTupleD, isListD, isSeqD, Bool.not_true, Bool.not_false, items1, itemsF, Dt.listOf, decide_true, decide_false, e, hb]
theorem s_webi (k : Nat) {p : D} {c : Int} (n sh i : Int) (ps : List (Int × Int)) (o7 : Option D) (g : Gp c p) (hc : c + 100 ≤ 1000000) (h0 : 0 ≤ i) (h1 : i < n) (h2 : n ≤ 9) (hl : ps.length ≤ 100) (dr : Dr n i 0 ps) :
    ∃ (ps' : List (Int × Int)) (p' : D) (o7' : Option D), Gp (c + 9) p' ∧ Dr n (i + 1) 0 ps' ∧ ps'.length ≤ ps.length + 9 ∧ forF ⟨Dt.run P0 12 (k + 1), 12, P0.sub⟩ (.v 6) bWi (.int i) (σW p n sh ps none o7) = .nx (σW p' n sh ps' (some (.int i)) o7') ∧
      ∀ o6, forF ⟨Dt.run P0 12 (k + 1), 12, P0.sub⟩ (.v 6) bWi (.int i) (σW p n sh ps o6 o7) = .nx (σW p' n sh ps' (some (.int i)) o7') := by
  obtain ⟨σ', q1, ps', p', o7', j, rfl, rj, j1, j2, dr', l', g'⟩ := for_inv (f := forF ⟨Dt.run P0 12 (k + 1), 12, P0.sub⟩ (.v 7) bWj) (items := rangeD (i + 1) n) (σ := σW p n sh ps (some (.int i)) o7)
    (fun rest σ => ∃ (ps' : List (Int × Int)) (p' : D) (o7' : Option D) (j : Int), σ = σW p' n sh ps' (some (.int i)) o7' ∧ rest = rangeD j n ∧ i + 1 ≤ j ∧ j ≤ n ∧ Dr n i j ps' ∧ (ps'.length : Int) ≤ ps.length + (j - (i + 1)) ∧ Gp (c + (j - (i + 1))) p')
    ⟨ps, p, o7, i + 1, rfl, rfl, by omega, by omega, dr.mono fun q hq => by unfold Bel at hq ⊢; omega, by omega, by rw [show c + (i + 1 - (i + 1)) = c by omega]; exact g⟩ (by
      rintro d rest σ _ ⟨ps', p', o7', j, rfl, rj, j1, j2, dr', l', g'⟩
      obtain ⟨a1, rfl, a3⟩ := rangeD_inv rj
      obtain ⟨b, p2, g2, e⟩ := s_webj k n sh i j ps' o7' g' (by omega) (by omega)
      refine ⟨_, .inl e, _, p2, _, j + 1, rfl, a3, by omega, by omega, ?_, ?_, ?_⟩
      · cases b with
        | true => exact dr'.put h0 (by omega) a1
        | false => exact dr'.mono fun q hq => by unfold Bel at hq ⊢; omega
      · cases b with
        | true => rw [if_pos rfl, List.length_append, List.length_singleton]; omega
        | false => rw [if_neg Bool.false_ne_true]; omega
      · rw [show c + (j + 1 - (i + 1)) = c + (j - (i + 1)) + 1 by omega]
        exact g2)
  have r2 : itR2 (.int (i + 1)) (.int n) = some (rangeD (i + 1) n) := by
    have := it_r2 (i + 1) n.toNat (by omega) (by omega) (by omega)
    rw [show ((n.toNat : Nat) : Int) = n by omega] at this
    exact this
  have all : ∀ o6, forF ⟨Dt.run P0 12 (k + 1), 12, P0.sub⟩ (.v 6) bWi (.int i) (σW p n sh ps o6 o7) = .nx (σW p' n sh ps' (some (.int i)) o7') := by
    intro o6
    unfold forF
    simp only [evS_seq, evS_skip, evS_frz, evS_set, evS_exp, evS_ret, evS_ite, evS_par, evS_putS, evS_putA, evS_for, evT_op, evT_call, evT_var, evT_bl, evT_and, evT_or, evT_not, evE_var, evE_non, evE_bl, evE_int, evE_str, evE_op, evE_and, evE_or, evE_not, evE_ite, evE_tup, evE_lst, fin0, fin1, fin2, fin3, evE_dsp, evE_call, evE_mut, evE_lc, evE_lc2, evE_dc, evL_nil, evL_pk, evL_lnt, evL_var, evL_non, evL_bl, evL_int, evL_str, evL_op, evL_tup, evL_lst, evL_call, evL_lc, evL_lc2, evL_dc, evL_ite, evL_and, evL_or, evL_not, bind_ok, ofE_ok, ofO_some, next_nx, next_ret, rdS_0, rdS_s, Option.isSome_some, if_true, Bool.false_eq_true, if_false, lnts, callO, back, endF, readAll, Option.map_some, Option.bind_some, List.set_cons_zero, List.set_cons_succ, asgT, Dt.truthy, oF_add, oF_sub, oF_neg, oF_eq, oF_ne, oF_lt, oF_gt, oF_le, oF_ge, oF_in, oF_nin, oF_isN, oF_notN, oF_idx, oF_slice, oF_sliceL, oF_sliceH, oF_rev, oF_len, oF_int, oF_min2, oF_max2, oF_list, oF_tuple, oF_sorted, oF_all, oF_any, oF_isInt, oF_isBool, oF_isTuple, oF_isList, oF_isStr, oF_range1, oF_range2, oF_count, oF_index, oF_index3, opR_f, dB_s, fAdd_ii, fSub_ii, fNeg_i, fLen_L, fLen_T, fLen_D, fInt_i, dLt_ii, dGt_ii, dLe_ii, fIdx_L, fIdx_T, fRev_L, fRev_T, fList_L, fList_T, fTuple_L, fTuple_T, fMin2_ii, fMax2_ii, fSlH_T, fSlL_T, fSlH_L, fSlL_L, at_0, at_1, dEq_ii, dEq_bb, dEq_tw, dIn_tw, dIn_iT, dIn_iL, evE_chn, evE_meth, chnO_t, chnO_f, evL_meth, evL_mut, evL_chn, evS_unp, evS_fgt, isIntD, isBoolD, isTupleD, isListD, isSeqD, Bool.not_true, Bool.not_false, items1, itemsF, Dt.listOf, decide_true, decide_false, r2]
    rw [q1]
    simp only [evS_seq, evS_skip, evS_frz, evS_set, evS_exp, evS_ret, evS_ite, evS_par, evS_putS, evS_putA, evS_for, evT_op, evT_call, evT_var, evT_bl, evT_and, evT_or, evT_not, evE_var, evE_non, evE_bl, evE_int, evE_str, evE_op, evE_and, evE_or, evE_not, evE_ite, evE_tup, evE_lst, fin0, fin1, fin2, fin3, evE_dsp, evE_call, evE_mut, evE_lc, evE_lc2, evE_dc, evL_nil, evL_pk, evL_lnt, evL_var, evL_non, evL_bl, evL_int, evL_str, evL_op, evL_tup, evL_lst, evL_call, evL_lc, evL_lc2, evL_dc, evL_ite, evL_and, evL_or, evL_not, bind_ok, ofE_ok, ofO_some, next_nx, next_ret, rdS_0, rdS_s, Option.isSome_some, if_true, Bool.false_eq_true, if_false, lnts, callO, back, endF, readAll, Option.map_some, Option.bind_some, List.set_cons_zero, List.set_cons_succ, asgT, Dt.truthy, oF_add, oF_sub, oF_neg, oF_eq, oF_ne, oF_lt, oF_gt, oF_le, oF_ge, oF_in, oF_nin, oF_isN, oF_notN, oF_idx, oF_slice, oF_sliceL, oF_sliceH, oF_rev, oF_len, oF_int, oF_min2, oF_max2, oF_list, oF_tuple, oF_sorted, oF_all, oF_any, oF_isInt, oF_isBool, oF_isTuple, oF_isList, oF_isStr, oF_range1, oF_range2, oF_count, oF_index, oF_index3, opR_f, dB_s, fAdd_ii, fSub_ii, fNeg_i, fLen_L, fLen_T, fLen_D, fInt_i, dLt_ii, dGt_ii, dLe_ii, fIdx_L, fIdx_T, fRev_L, fRev_T, fList_L, fList_T, fTuple_L, fTuple_T, fMin2_ii, fMax2_ii, fSlH_T, fSlL_T, fSlH_L, fSlL_L, at_0, at_1, dEq_ii, dEq_bb, dEq_tw, dIn_tw, dIn_iT, dIn_iL, evE_chn, evE_meth, chnO_t, chnO_f, evL_meth, evL_mut, evL_chn, evS_unp, evS_fgt, isIntD, isBoolD, isTupleD, isListD, isSeqD, Bool.not_true, Bool.not_false, items1, itemsF, Dt.listOf, decide_true, decide_false]
  refine ⟨ps', p', o7', g'.mono (by omega), ?_, by omega, all _, all⟩
  exact ⟨dr'.nd, fun q hq => ⟨(dr'.mem q hq).1, by
    obtain ⟨⟨z1, z2, z3⟩, h2⟩ := dr'.mem q hq
    unfold Bel at h2 ⊢
    omega⟩⟩
theorem s_web (k : Nat) {p : D} {c : Int} (n sh : Int) (g : Gp c p) (hc : c + 1000 ≤ 1000000) (h0 : 0 ≤ n) (h2 : n ≤ 9) :
    ∃ (ps : List (Int × Int)) (p' : D) (o6 o7 : Option D), forLoop (forF ⟨Dt.run P0 12 (k + 1), 12, P0.sub⟩ (.v 6) bWi) (rangeD 0 n) (σW p n sh [] none none) = .nx (σW p' n sh ps o6 o7) ∧ Dr n n 0 ps ∧ ps.length ≤ 81 ∧ Gp (c + 81) p' := by
  obtain ⟨σ', q1, ps', p', o6', o7', i, rfl, ri, i1, i2, dr', l', g'⟩ := for_inv (f := forF ⟨Dt.run P0 12 (k + 1), 12, P0.sub⟩ (.v 6) bWi) (items := rangeD 0 n) (σ := σW p n sh [] none none)
    (fun rest σ => ∃ (ps' : List (Int × Int)) (p' : D) (o6' o7' : Option D) (i : Int), σ = σW p' n sh ps' o6' o7' ∧ rest = rangeD i n ∧ 0 ≤ i ∧ i ≤ n ∧ Dr n i 0 ps' ∧ (ps'.length : Int) ≤ 9 * i ∧ Gp (c + 9 * i) p')
    ⟨[], p, none, none, 0, rfl, rfl, by omega, by omega, ⟨List.nodup_nil, fun _ h => nomatch h⟩, by simp, by simpa using g⟩ (by
      rintro d rest σ _ ⟨ps', p', o6', o7', i, rfl, ri, i1, i2, dr', l', g'⟩
      obtain ⟨a1, rfl, a3⟩ := rangeD_inv ri
      obtain ⟨ps2, p2, o72, g2, dr2, l2, _, e⟩ := s_webi k n sh i ps' o7' g' (by omega) i1 a1 h2 (by omega) dr'
      refine ⟨_, .inl (e o6'), ps2, p2, _, _, i + 1, rfl, a3, by omega, by omega, dr2, by omega, ?_⟩
      rw [show c + 9 * (i + 1) = c + 9 * i + 9 by omega]
      exact g2)
  have hi : i = n := by
    by_cases q : i < n
    · rw [rangeD_cons q] at ri
      cases ri
    · omega
  subst hi
  exact ⟨ps', p', o6', o7', q1, dr', by omega, g'.mono (by omega)⟩
end K14
end
section
set_option Elab.async false
set_option linter.all false
set_option maxRecDepth 100000
set_option maxHeartbeats 4000000
namespace K14
open PySem Dt
def untw : D → Int × Int
  | .tuple [.int a, .int b] => (a, b)
  | _ => (0, 0)
theorem perm_tw {fs : List D} {ps : List (Int × Int)} (h : fs.Perm (ps.map tw)) : ∃ qs : List (Int × Int), qs.Perm ps ∧ fs = qs.map tw := by
  refine ⟨fs.map untw, ?_, ?_⟩
  · have := h.map untw
    rw [List.map_map] at this
    have e : (untw ∘ tw) = id := rfl
    rw [e, List.map_id] at this
    exact this
  · rw [List.map_map]
    have : ∀ d ∈ fs, (tw ∘ untw) d = d := fun d hd => by
      obtain ⟨p, _, rfl⟩ := List.mem_map.mp (h.mem_iff.mp hd)
      rfl
    exact ((List.map_congr_left this).trans (List.map_id _)).symm
def leP (p q : Int × Int) : Bool := decide (p.1 < q.1 ∨ (p.1 = q.1 ∧ p.2 ≤ q.2))
theorem leP_iff {p q : Int × Int} : leP p q = true ↔ p.1 < q.1 ∨ (p.1 = q.1 ∧ p.2 ≤ q.2) := by unfold leP; exact decide_eq_true_iff
theorem fin5 {α : Type} {a b : α} {x y z u v : D} : (if [x, y, z, u, v].length ≤ sizeLine then a else b) = a := if_pos (few (by simp))
theorem leP_eq : (fun p q => W.dataLe false id (tw p) (tw q)) = leP := by
  have := W.dataLe_ii (β := Int × Int) (fun p => p.1) (fun p => p.2)
  funext p q
  have := congrFun (congrFun this p) q
  exact this
theorem sort_tw (qs : List (Int × Int)) : (qs.map tw).mergeSort (W.dataLe false id) = (qs.mergeSort leP).map tw := by
  rw [List.map_mergeSort (r := leP) (f := tw) (s := W.dataLe false id) fun a _ b _ => (congrFun (congrFun leP_eq a) b).symm]
theorem srt_tw (qs : List (Int × Int)) (h : qs.length ≤ 1000) : fSorted (.list (qs.map tw)) = some (.list ((qs.mergeSort leP).map tw)) := by
  have h1 : okD (.list (qs.map tw)) = true := okL_list (okL_tws qs)
  have h2 : alikeAll1 (qs.map tw) = true := by
    unfold alikeAll1
    rw [List.all_eq_true]
    intro d hd
    rw [List.all_eq_true]
    intro e he
    obtain ⟨p, _, rfl⟩ := List.mem_map.mp hd
    obtain ⟨q, _, rfl⟩ := List.mem_map.mp he
    simp [W.alike, W.alikeAll]
  have h3 : sortable1 (qs.map tw) = true := by
    unfold sortable1
    rw [Bool.or_eq_true]
    refine .inl ?_
    rw [List.all_eq_true]
    intro d hd
    obtain ⟨p, _, rfl⟩ := List.mem_map.mp hd
    rfl
  unfold fSorted
  simp only
  rw [h1, h2, h3, if_pos (by simp only [Bool.true_and, decide_eq_true_eq]; rw [sl24, List.length_map]; omega), sort_tw]
theorem sorted_ok {n : Int} {qs : List (Int × Int)} (h0 : 0 ≤ n) (h9 : n ≤ 12) (nd : qs.Nodup) (mem : ∀ p ∈ qs, 0 ≤ p.1 ∧ p.1 < p.2 ∧ p.2 < n) (hl : qs.length ≤ 100) : WebOk n (qs.mergeSort leP) := by
  have pm := List.mergeSort_perm qs leP
  have pw := List.pairwise_mergeSort (le := leP) (fun a b c h1 h2 => by simp only [leP, decide_eq_true_eq] at *; omega) (fun a b => by simp only [leP, Bool.or_eq_true, decide_eq_true_eq]; omega) qs
  have nd' : (qs.mergeSort leP).Nodup := pm.nodup_iff.mpr nd
  refine ⟨h0, h9, fun p hp => mem p (pm.mem_iff.mp hp), fun j hj => ?_, by rw [List.length_mergeSort]; exact hl, nd'⟩
  have h1 := List.pairwise_iff_getElem.mp pw j (j + 1) (by omega) hj (by omega)
  have h2 := List.pairwise_iff_getElem.mp nd' j (j + 1) (by omega) hj (by omega)
  have h1 := leP_iff.mp h1
  unfold lexLt
  rcases h1 with h1 | ⟨h1, h3⟩
  · exact .inl h1
  · refine .inr ⟨h1, ?_⟩
    have : (qs.mergeSort leP)[j].2 ≠ (qs.mergeSort leP)[j + 1].2 := fun e => h2 (Prod.ext h1 e)
    omega
theorem f_web (k : Nat) {p : D} {c : Int} (g : Gp c p) (hc : c + 2000 ≤ 1000000) : ∃ (n : Int) (ps : List (Int × Int)) (p' : D), Dt.run P0 12 (k + 3) 20 [p, .int 9, .int 20] = .ret (.tuple [.int n, tws ps]) [p'] ∧ WebOk n ps ∧ n ≤ 9 ∧ ps.length ≤ 20 ∧ Gp (c + 200) p' := by
  obtain ⟨n, p1, e1, n0, n1, g1⟩ := f_draw (k + 1) (many := 10) g (by omega) (by decide) (by decide)
  obtain ⟨j, hj, p2, e2, g2⟩ := f_pick k [.int 3, .int 5, .int 7, .int 9, .int 11] g1 (by omega) (by simp) (by simp)
  obtain ⟨sh, hs⟩ : ∃ sh : Int, ([.int 3, .int 5, .int 7, .int 9, .int 11] : List D)[j] = .int sh := by
    have : j < 5 := by simpa using hj
    match j, this with
    | 0, _ => exact ⟨_, rfl⟩
    | 1, _ => exact ⟨_, rfl⟩
    | 2, _ => exact ⟨_, rfl⟩
    | 3, _ => exact ⟨_, rfl⟩
    | 4, _ => exact ⟨_, rfl⟩
  rw [hs] at e2
  obtain ⟨ps, p3, o6, o7, e3, dr, l3, g3⟩ := s_web (k + 1) n sh g2 (by omega) n0 (by omega)
  obtain ⟨fs, p4, e4, pm, g4⟩ := f_mixed k (ps.map tw) g3 (by omega) (by rw [List.length_map]; omega)
  obtain ⟨qs, pq, rfl⟩ := perm_tw pm
  have lq := pq.length_eq
  have e10 : (9 : Int) + 1 = 10 := rfl
  have r1 : itR1 (.int n) = some (rangeD 0 n) := by
    have := it_r1 n.toNat (by omega)
    rw [show ((n.toNat : Nat) : Int) = n by omega] at this
    exact this
  have c1 : cutD (qs.map tw) none (some ((20 : Nat) : Int)) = (qs.take 20).map tw := by rw [cut_hi, ← List.map_take]
  have c1 : cutD (qs.map tw) none (some 20) = (qs.take 20).map tw := c1
  have sl : (qs.take 20).length ≤ 20 := by rw [List.length_take]; omega
  have sr := srt_tw (qs.take 20) (by omega)
  refine ⟨n, (qs.take 20).mergeSort leP, p4, ?_, sorted_ok n0 (by omega) ((List.take_sublist _ _).nodup (pq.nodup_iff.mpr dr.nd)) (fun q hq => (dr.mem q (pq.mem_iff.mp (List.mem_of_mem_take hq))).1) (by omega), by omega, by rw [List.length_mergeSort]; exact sl, g4.mono (by rw [List.length_map]; omega)⟩
  have e3 : forLoop (forF ⟨Dt.run P0 12 (k + 2), 12, P0.sub⟩ (.v 6) bWi) (rangeD 0 n) [some p2, some (.int 9), some (.int 20), some (.int n), some (.int sh), some (.list []), none, none] = .nx (σW p3 n sh ps o6 o7) := e3
  rw [run__law_web]
  unfold b__law_web
  simp only [evS_seq, evS_skip, evS_frz, evS_set, evS_exp, evS_ret, evS_ite, evS_par, evS_putS, evS_putA, evS_for, evT_op, evT_call, evT_var, evT_bl, evT_and, evT_or, evT_not, evE_var, evE_non, evE_bl, evE_int, evE_str, evE_op, evE_and, evE_or, evE_not, evE_ite, evE_tup, evE_lst, fin0, fin1, fin2, fin3, evE_dsp, evE_call, evE_mut, evE_lc, evE_lc2, evE_dc, evL_nil, evL_pk, evL_lnt, evL_var, evL_non, evL_bl, evL_int, evL_str, evL_op, evL_tup, evL_lst, evL_call, evL_lc, evL_lc2, evL_dc, evL_ite, evL_and, evL_or, evL_not, bind_ok, ofE_ok, ofO_some, next_nx, next_ret, rdS_0, rdS_s, Option.isSome_some, if_true, Bool.false_eq_true, if_false, lnts, callO, back, endF, readAll, Option.map_some, Option.bind_some, List.set_cons_zero, List.set_cons_succ, asgT, Dt.truthy, oF_add, oF_sub, oF_neg, oF_eq, oF_ne, oF_lt, oF_gt, oF_le, oF_ge, oF_in, oF_nin, oF_isN, oF_notN, oF_idx, oF_slice, oF_sliceL, oF_sliceH, oF_rev, oF_len, oF_int, oF_min2, oF_max2, oF_list, oF_tuple, oF_sorted, oF_all, oF_any, oF_isInt, oF_isBool, oF_isTuple, oF_isList, oF_isStr, oF_range1, oF_range2, oF_count, oF_index, oF_index3, opR_f, dB_s, fAdd_ii, fSub_ii, fNeg_i, fLen_L, fLen_T, fLen_D, fInt_i, dLt_ii, dGt_ii, dLe_ii, fIdx_L, fIdx_T, fRev_L, fRev_T, fList_L, fList_T, fTuple_L, fTuple_T, fMin2_ii, fMax2_ii, fSlH_T, fSlL_T, fSlH_L, fSlL_L, at_0, at_1, dEq_ii, dEq_bb, dEq_tw, dIn_tw, dIn_iT, dIn_iL, evE_chn, evE_meth, chnO_t, chnO_f, evL_meth, evL_mut, evL_chn, evS_unp, evS_fgt, isIntD, isBoolD, isTupleD, isListD, isSeqD, Bool.not_true, Bool.not_false, items1, itemsF, Dt.listOf, decide_true, decide_false, e10, e1, fin5, e2, r1]
  rw [e3]
  simp only [evS_seq, evS_skip, evS_frz, evS_set, evS_exp, evS_ret, evS_ite, evS_par, evS_putS, evS_putA, evS_for, evT_op, evT_call, evT_var, evT_bl, evT_and, evT_or, evT_not, evE_var, evE_non, evE_bl, evE_int, evE_str, evE_op, evE_and, evE_or, evE_not, evE_ite, evE_tup, evE_lst, fin0, fin1, fin2, fin3, evE_dsp, evE_call, evE_mut, evE_lc, evE_lc2, evE_dc, evL_nil, evL_pk, evL_lnt, evL_var, evL_non, evL_bl, evL_int, evL_str, evL_op, evL_tup, evL_lst, evL_call, evL_lc, evL_lc2, evL_dc, evL_ite, evL_and, evL_or, evL_not, bind_ok, ofE_ok, ofO_some, next_nx, next_ret, rdS_0, rdS_s, Option.isSome_some, if_true, Bool.false_eq_true, if_false, lnts, callO, back, endF, readAll, Option.map_some, Option.bind_some, List.set_cons_zero, List.set_cons_succ, asgT, Dt.truthy, oF_add, oF_sub, oF_neg, oF_eq, oF_ne, oF_lt, oF_gt, oF_le, oF_ge, oF_in, oF_nin, oF_isN, oF_notN, oF_idx, oF_slice, oF_sliceL, oF_sliceH, oF_rev, oF_len, oF_int, oF_min2, oF_max2, oF_list, oF_tuple, oF_sorted, oF_all, oF_any, oF_isInt, oF_isBool, oF_isTuple, oF_isList, oF_isStr, oF_range1, oF_range2, oF_count, oF_index, oF_index3, opR_f, dB_s, fAdd_ii, fSub_ii, fNeg_i, fLen_L, fLen_T, fLen_D, fInt_i, dLt_ii, dGt_ii, dLe_ii, fIdx_L, fIdx_T, fRev_L, fRev_T, fList_L, fList_T, fTuple_L, fTuple_T, fMin2_ii, fMax2_ii, fSlH_T, fSlL_T, fSlH_L, fSlL_L, at_0, at_1, dEq_ii, dEq_bb, dEq_tw, dIn_tw, dIn_iT, dIn_iL, evE_chn, evE_meth, chnO_t, chnO_f, evL_meth, evL_mut, evL_chn, evS_unp, evS_fgt, isIntD, isBoolD, isTupleD, isListD, isSeqD, Bool.not_true, Bool.not_false, items1, itemsF, Dt.listOf, decide_true, decide_false, e4, c1, sr]
end K14
end
section
set_option Elab.async false
set_option linter.all false
set_option maxRecDepth 100000
set_option maxHeartbeats 4000000
namespace K14
open PySem Dt
theorem e_rg1 {n : Int} (h0 : 0 ≤ n) (h : n ≤ 1000) : fRange1 (.int n) = some (.list (rangeD 0 n)) := by
  show (if inR n && decide (n.toNat ≤ 2 ^ 24) then some (PyData.list (rangeD 0 n)) else none) = _
  rw [inR_of (by omega) (by omega), if_pos (by simp only [Bool.true_and, decide_eq_true_eq]; omega)]
theorem okL_rg {n : Int} : okL (rangeD 0 n) := okL_mem.mpr fun d hd => by
  obtain ⟨i, rfl, _⟩ := rg_mem hd
  exact okL_int
theorem e_ixl {l : List D} {i : Int} (ok : okL l) (h : .int i ∈ l) : ∃ m : Nat, fIndex (.list l) (.int i) = some (.int (m : Nat)) := by
  have : ((l.drop 0).findIdx? fun y => PyData.eqv y (.int i)).isSome = true := by
    rw [List.findIdx?_isSome, List.drop_zero, List.any_eq_true]
    exact ⟨.int i, h, by rw [eqv_int]; simp⟩
  obtain ⟨m, hm⟩ := Option.isSome_iff_exists.mp this
  refine ⟨0 + m, ?_⟩
  show (if okD (.list l) && okD (.int i) then natD (ixFrom l (.int i) 0) else none) = _
  rw [okL_list ok]
  show natD (ixFrom l (.int i) 0) = _
  unfold ixFrom
  rw [hm]
  rfl
theorem mem_rg {n i : Int} (h0 : 0 ≤ i) (h : i < n) : .int i ∈ rangeD 0 n := by
  unfold rangeD
  exact List.mem_map.mpr ⟨i.toNat, List.mem_range.mpr (by omega), by congr 1; omega⟩
abbrev bS : S := (.seq (.set 7 (.ite (.op .gt false (.cons (.pk 3) (.cons (.int 0) .nil))) (.op .gt false (.cons (.meth .index (.var 2) (.cons (.pk 5) .nil)) (.cons (.meth .index (.var 2) (.cons (.pk 6) .nil)) .nil))) (.op .eq false (.cons (.call 16 (.cons (.lnt 0) (.cons (.int 2) .nil))) (.cons (.int 0) .nil)))))
  (.seq (.exp (.mut .append 4 (.cons (.ite (.var 7) (.tup (.cons (.var 6) (.cons (.var 5) .nil))) (.tup (.cons (.var 5) (.cons (.var 6) .nil)))) .nil)))
  .skip))
theorem s_sdir (k : Nat) {p : D} {c : Int} (W : D) (l : List D) (way a b : Int) (ds : List (Int × Int)) (o5 o6 o7 : Option D) (g : Gp c p) (hc : c + 1 ≤ 1000000) (ok : okL l) (ha : .int a ∈ l) (hb : .int b ∈ l) (hl : ds.length ≤ 1000) :
    ∃ (t : Bool) (p' : D), Gp (c + 1) p' ∧ forF ⟨Dt.run P0 12 (k + 1), 12, P0.sub⟩ (.cons (.v 5) (.cons (.v 6) .nil)) bS (tw (a, b)) [some p, some W, some (.list l), some (.int way), some (.list (ds.map tw)), o5, o6, o7]
      = .nx [some p', some W, some (.list l), some (.int way), some (.list ((ds ++ [if t then (b, a) else (a, b)]).map tw)), some (.int a), some (.int b), some (.bool t)] := by
  have m1 : ∀ (t : Bool) (p' : D), mutO .append 4 [tw (if t then (b, a) else (a, b))] [some p', some W, some (.list l), some (.int way), some (.list (ds.map tw)), some (.int a), some (.int b), some (.bool t)] = .ok .none [some p', some W, some (.list l), some (.int way), some (.list ((ds ++ [if t then (b, a) else (a, b)]).map tw)), some (.int a), some (.int b), some (.bool t)] := fun t p' => by
    refine mutO_ok (r := .list (ds.map tw)) (r' := .list ((ds ++ [if t then (b, a) else (a, b)]).map tw)) rfl ?_
    rw [e_appD (by rw [List.length_map]; omega), List.map_append]
    rfl
  cases hw : decide (0 < way) with
  | true =>
    obtain ⟨x, ex⟩ := e_ixl ok ha
    obtain ⟨y, ey⟩ := e_ixl ok hb
    refine ⟨decide ((y : Int) < (x : Int)), p, g.mono (by omega), ?_⟩
    unfold forF
    cases ht : decide ((y : Int) < (x : Int)) with
    | true =>
      have m := m1 true p
      rw [if_pos rfl] at m ⊢
      simp only [evS_seq, evS_skip, evS_frz, evS_set, evS_exp, evS_ret, evS_ite, evS_par, evS_putS, evS_putA, evS_for, evT_op, evT_call, evT_var, evT_bl, evT_and, evT_or, evT_not, evE_var, evE_non, evE_bl, evE_int, evE_str, evE_op, evE_and, evE_or, evE_not, evE_ite, evE_tup, evE_lst, fin0, fin1, fin2, fin3, evE_dsp, evE_call, evE_mut, evE_lc, evE_lc2, evE_dc, evL_nil, evL_pk, evL_lnt, evL_var, evL_non, evL_bl, evL_int, evL_str, evL_op, evL_tup, evL_lst, evL_call, evL_lc, evL_lc2, evL_dc, evL_ite, evL_and, evL_or, evL_not, bind_ok, ofE_ok, ofO_some, next_nx, next_ret, rdS_0, rdS_s, Option.isSome_some, if_true, Bool.false_eq_true, if_false, lnts, callO, back, endF, readAll, Option.map_some, Option.bind_some, List.set_cons_zero, List.set_cons_succ, asgT, Dt.truthy, oF_add, oF_sub, oF_neg, oF_eq, oF_ne, oF_lt, oF_gt, oF_le, oF_ge, oF_in, oF_nin, oF_isN, oF_notN, oF_idx, oF_slice, oF_sliceL, oF_sliceH, oF_rev, oF_len, oF_int, oF_min2, oF_max2, oF_list, oF_tuple, oF_sorted, oF_all, oF_any, oF_isInt, oF_isBool, oF_isTuple, oF_isList, oF_isStr, oF_range1, oF_range2, oF_count, oF_index, oF_index3, opR_f, dB_s, fAdd_ii, fSub_ii, fNeg_i, fLen_L, fLen_T, fLen_D, fInt_i, dLt_ii, dGt_ii, dLe_ii, fIdx_L, fIdx_T, fRev_L, fRev_T, fList_L, fList_T, fTuple_L, fTuple_T, fMin2_ii, fMax2_ii, fSlH_T, fSlL_T, fSlH_L, fSlL_L, at_0, at_1, dEq_ii, dEq_bb, dEq_tw, dIn_tw, dIn_iT, dIn_iL, evE_chn, evE_meth, chnO_t, chnO_f, evL_meth, evL_mut, evL_chn, evS_unp, evS_fgt, isIntD, isBoolD, isTupleD, isListD, isSeqD, Bool.not_true, Bool.not_false, items1, itemsF, Dt.listOf, decide_true, decide_false, hw, ex, ey, ht, isLs, m]
    | false =>
      have m := m1 false p
      rw [if_neg Bool.false_ne_true] at m ⊢
      simp only [evS_seq, evS_skip, evS_frz, evS_set, evS_exp, evS_ret, evS_ite, evS_par, evS_putS, evS_putA, evS_for, evT_op, evT_call, evT_var, evT_bl, evT_and, evT_or, evT_not, evE_var, evE_non, evE_bl, evE_int, evE_str, evE_op, evE_and, evE_or, evE_not, evE_ite, evE_tup, evE_lst, fin0, fin1, fin2, fin3, evE_dsp, evE_call, evE_mut, evE_lc, evE_lc2, evE_dc, evL_nil, evL_pk, evL_lnt, evL_var, evL_non, evL_bl, evL_int, evL_str, evL_op, evL_tup, evL_lst, evL_call, evL_lc, evL_lc2, evL_dc, evL_ite, evL_and, evL_or, evL_not, bind_ok, ofE_ok, ofO_some, next_nx, next_ret, rdS_0, rdS_s, Option.isSome_some, if_true, Bool.false_eq_true, if_false, lnts, callO, back, endF, readAll, Option.map_some, Option.bind_some, List.set_cons_zero, List.set_cons_succ, asgT, Dt.truthy, oF_add, oF_sub, oF_neg, oF_eq, oF_ne, oF_lt, oF_gt, oF_le, oF_ge, oF_in, oF_nin, oF_isN, oF_notN, oF_idx, oF_slice, oF_sliceL, oF_sliceH, oF_rev, oF_len, oF_int, oF_min2, oF_max2, oF_list, oF_tuple, oF_sorted, oF_all, oF_any, oF_isInt, oF_isBool, oF_isTuple, oF_isList, oF_isStr, oF_range1, oF_range2, oF_count, oF_index, oF_index3, opR_f, dB_s, fAdd_ii, fSub_ii, fNeg_i, fLen_L, fLen_T, fLen_D, fInt_i, dLt_ii, dGt_ii, dLe_ii, fIdx_L, fIdx_T, fRev_L, fRev_T, fList_L, fList_T, fTuple_L, fTuple_T, fMin2_ii, fMax2_ii, fSlH_T, fSlL_T, fSlH_L, fSlL_L, at_0, at_1, dEq_ii, dEq_bb, dEq_tw, dIn_tw, dIn_iT, dIn_iL, evE_chn, evE_meth, chnO_t, chnO_f, evL_meth, evL_mut, evL_chn, evS_unp, evS_fgt, isIntD, isBoolD, isTupleD, isListD, isSeqD, Bool.not_true, Bool.not_false, items1, itemsF, Dt.listOf, decide_true, decide_false, hw, ex, ey, ht, isLs, m]
  | false =>
    obtain ⟨r, p', e, r1, r2, g'⟩ := f_draw k (many := 2) g hc (by decide) (by decide)
    refine ⟨decide (r = 0), p', g', ?_⟩
    unfold forF
    cases ht : decide (r = 0) with
    | true =>
      have m := m1 true p'
      rw [if_pos rfl] at m ⊢
      simp only [evS_seq, evS_skip, evS_frz, evS_set, evS_exp, evS_ret, evS_ite, evS_par, evS_putS, evS_putA, evS_for, evT_op, evT_call, evT_var, evT_bl, evT_and, evT_or, evT_not, evE_var, evE_non, evE_bl, evE_int, evE_str, evE_op, evE_and, evE_or, evE_not, evE_ite, evE_tup, evE_lst, fin0, fin1, fin2, fin3, evE_dsp, evE_call, evE_mut, evE_lc, evE_lc2, evE_dc, evL_nil, evL_pk, evL_lnt, evL_var, evL_non, evL_bl, evL_int, evL_str, evL_op, evL_tup, evL_lst, evL_call, evL_lc, evL_lc2, evL_dc, evL_ite, evL_and, evL_or, evL_not, bind_ok, ofE_ok, ofO_some, next_nx, next_ret, rdS_0, rdS_s, Option.isSome_some, if_true, Bool.false_eq_true, if_false, lnts, callO, back, endF, readAll, Option.map_some, Option.bind_some, List.set_cons_zero, List.set_cons_succ, asgT, Dt.truthy, oF_add, oF_sub, oF_neg, oF_eq, oF_ne, oF_lt, oF_gt, oF_le, oF_ge, oF_in, oF_nin, oF_isN, oF_notN, oF_idx, oF_slice, oF_sliceL, oF_sliceH, oF_rev, oF_len, oF_int, oF_min2, oF_max2, oF_list, oF_tuple, oF_sorted, oF_all, oF_any, oF_isInt, oF_isBool, oF_isTuple, oF_isList, oF_isStr, oF_range1, oF_range2, oF_count, oF_index, oF_index3, opR_f, dB_s, fAdd_ii, fSub_ii, fNeg_i, fLen_L, fLen_T, fLen_D, fInt_i, dLt_ii, dGt_ii, dLe_ii, fIdx_L, fIdx_T, fRev_L, fRev_T, fList_L, fList_T, fTuple_L, fTuple_T, fMin2_ii, fMax2_ii, fSlH_T, fSlL_T, fSlH_L, fSlL_L, at_0, at_1, dEq_ii, dEq_bb, dEq_tw, dIn_tw, dIn_iT, dIn_iL, evE_chn, evE_meth, chnO_t, chnO_f, evL_meth, evL_mut, evL_chn, evS_unp, evS_fgt, isIntD, isBoolD, isTupleD, isListD, isSeqD, Bool.not_true, Bool.not_false, items1, itemsF, Dt.listOf, decide_true, decide_false, hw, e, ht, isLs, m]
    | false =>
      have m := m1 false p'
      rw [if_neg Bool.false_ne_true] at m ⊢
      simp only [evS_seq, evS_skip, evS_frz, evS_set, evS_exp, evS_ret, evS_ite, evS_par, evS_putS, evS_putA, evS_for, evT_op, evT_call, evT_var, evT_bl, evT_and, evT_or, evT_not, evE_var, evE_non, evE_bl, evE_int, evE_str, evE_op, evE_and, evE_or, evE_not, evE_ite, evE_tup, evE_lst, fin0, fin1, fin2, fin3, evE_dsp, evE_call, evE_mut, evE_lc, evE_lc2, evE_dc, evL_nil, evL_pk, evL_lnt, evL_var, evL_non, evL_bl, evL_int, evL_str, evL_op, evL_tup, evL_lst, evL_call, evL_lc, evL_lc2, evL_dc, evL_ite, evL_and, evL_or, evL_not, bind_ok, ofE_ok, ofO_some, next_nx, next_ret, rdS_0, rdS_s, Option.isSome_some, if_true, Bool.false_eq_true, if_false, lnts, callO, back, endF, readAll, Option.map_some, Option.bind_some, List.set_cons_zero, List.set_cons_succ, asgT, Dt.truthy, oF_add, oF_sub, oF_neg, oF_eq, oF_ne, oF_lt, oF_gt, oF_le, oF_ge, oF_in, oF_nin, oF_isN, oF_notN, oF_idx, oF_slice, oF_sliceL, oF_sliceH, oF_rev, oF_len, oF_int, oF_min2, oF_max2, oF_list, oF_tuple, oF_sorted, oF_all, oF_any, oF_isInt, oF_isBool, oF_isTuple, oF_isList, oF_isStr, oF_range1, oF_range2, oF_count, oF_index, oF_index3, opR_f, dB_s, fAdd_ii, fSub_ii, fNeg_i, fLen_L, fLen_T, fLen_D, fInt_i, dLt_ii, dGt_ii, dLe_ii, fIdx_L, fIdx_T, fRev_L, fRev_T, fList_L, fList_T, fTuple_L, fTuple_T, fMin2_ii, fMax2_ii, fSlH_T, fSlL_T, fSlH_L, fSlL_L, at_0, at_1, dEq_ii, dEq_bb, dEq_tw, dIn_tw, dIn_iT, dIn_iL, evE_chn, evE_meth, chnO_t, chnO_f, evL_meth, evL_mut, evL_chn, evS_unp, evS_fgt, isIntD, isBoolD, isTupleD, isListD, isSeqD, Bool.not_true, Bool.not_false, items1, itemsF, Dt.listOf, decide_true, decide_false, hw, e, ht, isLs, m]
theorem tie_sw {a b : Int} (h : a < b) (t : Bool) : tie (if t then (b, a) else (a, b)).1 (if t then (b, a) else (a, b)).2 = (a, b) := by
  unfold tie
  cases t with
  | true => simp only [if_true]; rw [if_neg (by omega)]
  | false => simp only [Bool.false_eq_true, if_false]; rw [if_pos h]
theorem f_dirs (k : Nat) {p : D} {c : Int} (n : Int) (ps : List (Int × Int)) (h : WebOk n ps) (g : Gp c p) (hc : c + 2000 ≤ 1000000) : ∃ (ds : List (Int × Int)) (p' : D), Dt.run P0 12 (k + 3) 21 [p, .tuple [.int n, tws ps]] = .ret (tws ds) [p'] ∧ DirOk n ps ds ∧ Gp (c + 200) p' := by
  have n0 := h.n0
  have n9 := h.n9
  have hl := h.len
  obtain ⟨l, p1, e1, pm, g1⟩ := f_mixed k (rangeD 0 n) g (by omega) (by rw [rg_len]; omega)
  rw [rg_len] at g1
  obtain ⟨way, p2, e2, w0, w1, g2⟩ := f_draw (k + 1) (many := 3) g1 (by omega) (by decide) (by decide)
  have okl : okL l := okL_sub okL_rg fun d hd => pm.mem_iff.mp hd
  obtain ⟨σ', q1, done, rs, ds, p', o5, o6, o7, rfl, er, edr, ld, ez, g'⟩ := for_inv (f := forF ⟨Dt.run P0 12 (k + 2), 12, P0.sub⟩ (.cons (.v 5) (.cons (.v 6) .nil)) bS) (items := ps.map tw) (σ := [some p2, some (.tuple [.int n, tws ps]), some (.list l), some (.int way), some (.list []), none, none, none])
    (fun rest σ => ∃ (done rs ds : List (Int × Int)) (p' : D) (o5 o6 o7 : Option D), σ = [some p', some (.tuple [.int n, tws ps]), some (.list l), some (.int way), some (.list (ds.map tw)), o5, o6, o7] ∧ rest = rs.map tw ∧ done ++ rs = ps ∧ ds.length = done.length ∧ (∀ q ∈ done.zip ds, tie q.2.1 q.2.2 = q.1) ∧ Gp (c + 100 + done.length) p')
    ⟨[], ps, [], p2, none, none, none, rfl, rfl, rfl, rfl, fun _ hq => (nomatch hq), g2.mono (by simp; omega)⟩ (by
      rintro d rest σ _ ⟨done, rs, ds, p', o5, o6, o7, rfl, er, edr, ld, ez, g'⟩
      cases rs with
      | nil => cases er
      | cons r rs =>
        obtain ⟨a, b⟩ := r
        simp only [List.map_cons, List.cons.injEq] at er
        obtain ⟨rfl, rfl⟩ := er
        have lp := congrArg List.length edr
        rw [List.length_append, List.length_cons] at lp
        have hm := h.mem (a, b) (by rw [← edr]; simp)
        simp only at hm
        obtain ⟨t, p3, g3, e⟩ := s_sdir (k + 1) (.tuple [.int n, tws ps]) l way a b ds o5 o6 o7 g' (by omega) okl (pm.mem_iff.mpr (mem_rg hm.1 (by omega))) (pm.mem_iff.mpr (mem_rg (by omega) hm.2.2)) (by omega)
        refine ⟨_, .inl e, done ++ [(a, b)], rs, _, p3, _, _, _, rfl, rfl, by rw [List.append_assoc]; exact edr, by rw [List.length_append, List.length_append, ld]; rfl, ?_, ?_⟩
        · rw [List.zip_append ld.symm]
          intro q hq
          rcases List.mem_append.mp hq with hq | hq
          · exact ez q hq
          · simp only [List.zip_cons_cons, List.zip_nil_right, List.mem_singleton] at hq
            subst hq
            exact tie_sw hm.2.1 t
        · rw [List.length_append, List.length_singleton, show c + 100 + ((done.length + 1 : Nat) : Int) = c + 100 + (done.length : Int) + 1 by omega]
          exact g3)
  cases rs with
  | cons _ _ => cases er
  | nil =>
    rw [List.append_nil] at edr
    subst edr
    refine ⟨ds, p', ?_, ⟨ld, ez⟩, g'.mono (by omega)⟩
    rw [run__law_some_directions]
    unfold b__law_some_directions
    simp only [evS_seq, evS_skip, evS_frz, evS_set, evS_exp, evS_ret, evS_ite, evS_par, evS_putS, evS_putA, evS_for, evT_op, evT_call, evT_var, evT_bl, evT_and, evT_or, evT_not, evE_var, evE_non, evE_bl, evE_int, evE_str, evE_op, evE_and, evE_or, evE_not, evE_ite, evE_tup, evE_lst, fin0, fin1, fin2, fin3, evE_dsp, evE_call, evE_mut, evE_lc, evE_lc2, evE_dc, evL_nil, evL_pk, evL_lnt, evL_var, evL_non, evL_bl, evL_int, evL_str, evL_op, evL_tup, evL_lst, evL_call, evL_lc, evL_lc2, evL_dc, evL_ite, evL_and, evL_or, evL_not, bind_ok, ofE_ok, ofO_some, next_nx, next_ret, rdS_0, rdS_s, Option.isSome_some, if_true, Bool.false_eq_true, if_false, lnts, callO, back, endF, readAll, Option.map_some, Option.bind_some, List.set_cons_zero, List.set_cons_succ, asgT, Dt.truthy, oF_add, oF_sub, oF_neg, oF_eq, oF_ne, oF_lt, oF_gt, oF_le, oF_ge, oF_in, oF_nin, oF_isN, oF_notN, oF_idx, oF_slice, oF_sliceL, oF_sliceH, oF_rev, oF_len, oF_int, oF_min2, oF_max2, oF_list, oF_tuple, oF_sorted, oF_all, oF_any, oF_isInt, oF_isBool, oF_isTuple, oF_isList, oF_isStr, oF_range1, oF_range2, oF_count, oF_index, oF_index3, opR_f, dB_s, fAdd_ii, fSub_ii, fNeg_i, fLen_L, fLen_T, fLen_D, fInt_i, dLt_ii, dGt_ii, dLe_ii, fIdx_L, fIdx_T, fRev_L, fRev_T, fList_L, fList_T, fTuple_L, fTuple_T, fMin2_ii, fMax2_ii, fSlH_T, fSlL_T, fSlH_L, fSlL_L, at_0, at_1, dEq_ii, dEq_bb, dEq_tw, dIn_tw, dIn_iT, dIn_iL, evE_chn, evE_meth, chnO_t, chnO_f, evL_meth, evL_mut, evL_chn, evS_unp, evS_fgt, isIntD, isBoolD, isTupleD, isListD, isSeqD, Bool.not_true, Bool.not_false, items1, itemsF, Dt.listOf, decide_true, decide_false, e_rg1 n0 (by omega : n ≤ 1000), e1, e2]
    rw [q1]
    simp only [evS_seq, evS_skip, evS_frz, evS_set, evS_exp, evS_ret, evS_ite, evS_par, evS_putS, evS_putA, evS_for, evT_op, evT_call, evT_var, evT_bl, evT_and, evT_or, evT_not, evE_var, evE_non, evE_bl, evE_int, evE_str, evE_op, evE_and, evE_or, evE_not, evE_ite, evE_tup, evE_lst, fin0, fin1, fin2, fin3, evE_dsp, evE_call, evE_mut, evE_lc, evE_lc2, evE_dc, evL_nil, evL_pk, evL_lnt, evL_var, evL_non, evL_bl, evL_int, evL_str, evL_op, evL_tup, evL_lst, evL_call, evL_lc, evL_lc2, evL_dc, evL_ite, evL_and, evL_or, evL_not, bind_ok, ofE_ok, ofO_some, next_nx, next_ret, rdS_0, rdS_s, Option.isSome_some, if_true, Bool.false_eq_true, if_false, lnts, callO, back, endF, readAll, Option.map_some, Option.bind_some, List.set_cons_zero, List.set_cons_succ, asgT, Dt.truthy, oF_add, oF_sub, oF_neg, oF_eq, oF_ne, oF_lt, oF_gt, oF_le, oF_ge, oF_in, oF_nin, oF_isN, oF_notN, oF_idx, oF_slice, oF_sliceL, oF_sliceH, oF_rev, oF_len, oF_int, oF_min2, oF_max2, oF_list, oF_tuple, oF_sorted, oF_all, oF_any, oF_isInt, oF_isBool, oF_isTuple, oF_isList, oF_isStr, oF_range1, oF_range2, oF_count, oF_index, oF_index3, opR_f, dB_s, fAdd_ii, fSub_ii, fNeg_i, fLen_L, fLen_T, fLen_D, fInt_i, dLt_ii, dGt_ii, dLe_ii, fIdx_L, fIdx_T, fRev_L, fRev_T, fList_L, fList_T, fTuple_L, fTuple_T, fMin2_ii, fMax2_ii, fSlH_T, fSlL_T, fSlH_L, fSlL_L, at_0, at_1, dEq_ii, dEq_bb, dEq_tw, dIn_tw, dIn_iT, dIn_iL, evE_chn, evE_meth, chnO_t, chnO_f, evL_meth, evL_mut, evL_chn, evS_unp, evS_fgt, isIntD, isBoolD, isTupleD, isListD, isSeqD, Bool.not_true, Bool.not_false, items1, itemsF, Dt.listOf, decide_true, decide_false]
end K14
end
section
set_option Elab.async false
set_option linter.all false
set_option maxRecDepth 100000
set_option maxHeartbeats 4000000
namespace K14
open PySem Dt
theorem DirOk.map {n : Int} {ps ds : List (Int × Int)} (h : DirOk n ps ds) : ds.map (fun q => tie q.1 q.2) = ps := by
  have hl := h.len
  refine List.ext_getElem (by rw [List.length_map]; exact hl) fun i h1 h2 => ?_
  rw [List.getElem_map]
  have : (ps[i], ds[i]'(by rw [List.length_map] at h1; exact h1)) ∈ ps.zip ds := by
    refine List.mem_iff_getElem.mpr ⟨i, by rw [List.length_zip]; omega, ?_⟩
    rw [List.getElem_zip]
  exact h.each _ this
/-- what the ways ask of the pairs -/
structure Ar (n : Int) (ds : List (Int × Int)) : Prop where
  n9 : n ≤ 9
  nd : ds.Nodup
  mem : ∀ q ∈ ds, (0 ≤ q.1 ∧ q.1 < n) ∧ (0 ≤ q.2 ∧ q.2 < n) ∧ q.1 ≠ q.2
  len : ds.length ≤ 20
theorem ar_of {n : Int} {ps ds : List (Int × Int)} (h : WebOk n ps) (hd : DirOk n ps ds) (h9 : n ≤ 9) (hl : ps.length ≤ 20) : Ar n ds := by
  have e := hd.map
  refine ⟨h9, ?_, fun q hq => ?_, by rw [hd.len]; exact hl⟩
  · refine List.Pairwise.of_map (S := (· ≠ ·)) (fun q => tie q.1 q.2) (fun a b h1 h2 => h1 (by rw [h2])) ?_
    rw [e]
    exact h.nd
  · have hm := h.mem (tie q.1 q.2) (by rw [← e]; exact List.mem_map_of_mem (f := fun q => tie q.1 q.2) hq)
    obtain ⟨h1, h2⟩ := tie_place rfl hm
    refine ⟨h1, h2, fun z => ?_⟩
    rw [z] at hm
    unfold tie at hm
    rw [if_neg (by omega)] at hm
    simp only at hm
    omega
structure Lv (n : Int) (l : Nat) (w : List Int) : Prop where
  len : w.length = l
  two : 2 ≤ l
  nd : w.Nodup
  mem : ∀ x ∈ w, 0 ≤ x ∧ x < n
def pE (w : List Int) : D → Bool
  | .tuple [.int a, .int b] => decide (a = lastI w) && !decide (b ∈ w)
  | _ => false
def fE (w : List Int) : D → D
  | .tuple [.int _, .int b] => tp (w ++ [b])
  | d => d
def ext (ds : List (Int × Int)) (w : List Int) : List (List Int) := (ds.filter fun q => decide (q.1 = lastI w) && !decide (q.2 ∈ w)).map fun q => w ++ [q.2]
theorem ext_eq (ds : List (Int × Int)) (w : List Int) : ((ds.map tw).filter (pE w)).map (fE w) = (ext ds w).map tp := by
  unfold ext
  rw [List.filter_map, List.map_map, List.map_map]
  rfl
theorem rg_nd (n : Int) : ((List.range n.toNat).map fun i : Nat => (i : Int)).Nodup := by
  refine List.pairwise_map.mpr (List.Pairwise.imp (fun {a b} h e => h ?_) (List.nodup_range (n := n.toNat)))
  exact Int.ofNat.inj e
theorem few_in {n : Int} {w : List Int} (h : w.Nodup) (m : ∀ x ∈ w, 0 ≤ x ∧ x < n) : w.length ≤ n.toNat := by
  have := sub_len (m := (List.range n.toNat).map fun i : Nat => (i : Int)) h fun x hx => by
    obtain ⟨h1, h2⟩ := m x hx
    exact List.mem_map.mpr ⟨x.toNat, List.mem_range.mpr (by omega), by omega⟩
  rwa [List.length_map, List.length_range] at this
theorem ext_lv {n : Int} {ds : List (Int × Int)} {l : Nat} {w : List Int} (A : Ar n ds) (h : Lv n l w) : (ext ds w).length ≤ 9 - l ∧ ∀ v ∈ ext ds w, Lv n (l + 1) v := by
  have n9 := A.n9
  unfold ext
  generalize hf : (ds.filter fun q => decide (q.1 = lastI w) && !decide (q.2 ∈ w)) = fl
  have fm : ∀ q ∈ fl, q ∈ ds ∧ q.1 = lastI w ∧ q.2 ∉ w := fun q hq => by
    rw [← hf] at hq
    obtain ⟨h1, h2⟩ := List.mem_filter.mp hq
    simp only [Bool.and_eq_true, decide_eq_true_eq, Bool.not_eq_true', decide_eq_false_iff_not] at h2
    exact ⟨h1, h2⟩
  have fn : fl.Nodup := by rw [← hf]; exact A.nd.filter _
  constructor
  · have n2 : (fl.map (·.2)).Nodup := by
      refine List.pairwise_map.mpr ?_
      refine List.Pairwise.imp_of_mem (fun {a b} ha hb hab e => hab ?_) fn
      exact Prod.ext ((fm a ha).2.1.trans (fm b hb).2.1.symm) e
    have n3 : (fl.map (·.2) ++ w).Nodup := by
      refine List.nodup_append.mpr ⟨n2, h.nd, fun a ha b hb e => ?_⟩
      obtain ⟨q, hq, rfl⟩ := List.mem_map.mp ha
      exact (fm q hq).2.2 (e ▸ hb)
    have := few_in (n := n) n3 fun x hx => by
      rcases List.mem_append.mp hx with hx | hx
      · obtain ⟨q, hq, rfl⟩ := List.mem_map.mp hx
        exact (A.mem q (fm q hq).1).2.1
      · exact h.mem x hx
    rw [List.length_append, List.length_map, h.len] at this
    rw [List.length_map]
    omega
  · intro v hv
    obtain ⟨q, hq, rfl⟩ := List.mem_map.mp hv
    obtain ⟨q1, q2, q3⟩ := fm q hq
    have two := h.two
    refine ⟨by rw [List.length_append, h.len]; rfl, by omega, ?_, fun x hx => ?_⟩
    · refine List.nodup_append.mpr ⟨h.nd, by simp, fun a ha b hb e => ?_⟩
      cases List.mem_singleton.mp hb
      subst e
      exact q3 ha
    · rcases List.mem_append.mp hx with hx | hx
      · exact h.mem x hx
      · cases List.mem_singleton.mp hx
        exact (A.mem q q1).2.1
theorem depth_ints (w : List Int) : PyData.depthAll (iL w) ≤ 1 := by
  induction w with
  | nil => simp [PyData.depthAll]
  | cons x w ih =>
    show PyData.depthAll (PyData.int x :: iL w) ≤ 1
    have := ih
    simp only [PyData.depthAll, PyData.depth]
    omega
theorem okL_tps (W : List (List Int)) : okL (W.map tp) := okL_mem.mpr fun d hd => by
  obtain ⟨w, _, rfl⟩ := List.mem_map.mp hd
  have h := okL_ints w
  refine ⟨?_, ?_⟩
  · show (PyData.tuple (iL w)).canLay0 = true
    simp only [PyData.canLay0]
    exact h.1
  · have h1 := depth_ints w
    show (PyData.tuple (iL w)).depth ≤ 60
    simp only [PyData.depth]
    omega
abbrev bX : S := (.seq (.set 6 (.op .add false (.cons (.pk 6) (.cons (.lc [4, 5] (.cons (.v 4) (.cons (.v 5) .nil)) .seq (.cons (.var 1) .nil) (.and (.op .eq false (.cons (.pk 4) (.cons (.op .idx false (.cons (.pk 7) (.cons (.op .neg false (.cons (.int 1) .nil)) .nil))) .nil))) (.op .notIn false (.cons (.pk 5) (.cons (.pk 7) .nil)))) .F (.op .add false (.cons (.pk 7) (.cons (.tup (.cons (.var 5) .nil)) .nil)))) .nil))))
  .skip)
abbrev σX (n : Int) (ds : List (Int × Int)) (Fd Fr : List (List Int)) (o6 o7 : Option D) : Sl := [some (.int n), some (tws ds), some (.list (Fd.map tp)), some (.list (Fr.map tp)), none, none, o6, o7]
theorem s_ext (V : Ev) (n : Int) (ds : List (Int × Int)) (Fd Fr M : List (List Int)) (l : Nat) (w : List Int) (o7 : Option D) (A : Ar n ds) (h : Lv n l w) (hM : M.length ≤ 1000000) :
    forF V (.v 7) bX (tp w) (σX n ds Fd Fr (some (.list (M.map tp))) o7) = .nx (σX n ds Fd Fr (some (.list ((M ++ ext ds w).map tp))) (some (tp w))) := by
  have hl := A.len
  have two := h.two
  have le := h.len
  have lw : w.length ≤ 9 := by have := few_in h.nd h.mem; have := A.n9; omega
  have a1 : atD (iL w) (-1) = some (.int (lastI w)) := by
    cases w with
    | nil => simp at le; omega
    | cons x t => exact last_iL x t
  have le2 := (ext_lv A h).1
  have r : runG [4, 5] .list (turnG [4, 5] (.cons (.v 4) (.cons (.v 5) .nil)) (evT V (.and (.op .eq false (.cons (.pk 4) (.cons (.op .idx false (.cons (.pk 7) (.cons (.op .neg false (.cons (.int 1) .nil)) .nil))) .nil))) (.op .notIn false (.cons (.pk 5) (.cons (.pk 7) .nil))))) (app1 (evE V (.op .add false (.cons (.pk 7) (.cons (.tup (.cons (.var 5) .nil)) .nil)))))) [] (ds.map tw) (σX n ds Fd Fr (some (.list (M.map tp))) (some (tp w))) = .ok (.list ((ext ds w).map tp)) (σX n ds Fd Fr (some (.list (M.map tp))) (some (tp w))) := by
    rw [← ext_eq]
    refine run_pure (pE w) (fE w) (w0 := σX n ds Fd Fr (some (.list (M.map tp))) (some (tp w))) rfl (by rw [sl24, List.length_map]; omega) fun d hd => ?_
    obtain ⟨⟨a, b⟩, _, rfl⟩ := List.mem_map.mp hd
    refine ⟨[some (.int n), some (tws ds), some (.list (Fd.map tp)), some (.list (Fr.map tp)), some (.int a), some (.int b), some (.list (M.map tp)), some (tp w)], rfl, rfl, ?_, fun _ => ?_⟩
    · have e : pE w (tw (a, b)) = (decide (a = lastI w) && !decide (b ∈ w)) := rfl
      rw [e]
      cases h1 : decide (a = lastI w) with
      | false => simp only [evS_seq, evS_skip, evS_frz, evS_set, evS_exp, evS_ret, evS_ite, evS_par, evS_putS, evS_putA, evS_for, evT_op, evT_call, evT_var, evT_bl, evT_and, evT_or, evT_not, evE_var, evE_non, evE_bl, evE_int, evE_str, evE_op, evE_and, evE_or, evE_not, evE_ite, evE_tup, evE_lst, fin0, fin1, fin2, fin3, evE_dsp, evE_call, evE_mut, evE_lc, evE_lc2, evE_dc, evL_nil, evL_pk, evL_lnt, evL_var, evL_non, evL_bl, evL_int, evL_str, evL_op, evL_tup, evL_lst, evL_call, evL_lc, evL_lc2, evL_dc, evL_ite, evL_and, evL_or, evL_not, bind_ok, ofE_ok, ofO_some, next_nx, next_ret, rdS_0, rdS_s, Option.isSome_some, if_true, Bool.false_eq_true, if_false, lnts, callO, back, endF, readAll, Option.map_some, Option.bind_some, List.set_cons_zero, List.set_cons_succ, asgT, Dt.truthy, oF_add, oF_sub, oF_neg, oF_eq, oF_ne, oF_lt, oF_gt, oF_le, oF_ge, oF_in, oF_nin, oF_isN, oF_notN, oF_idx, oF_slice, oF_sliceL, oF_sliceH, oF_rev, oF_len, oF_int, oF_min2, oF_max2, oF_list, oF_tuple, oF_sorted, oF_all, oF_any, oF_isInt, oF_isBool, oF_isTuple, oF_isList, oF_isStr, oF_range1, oF_range2, oF_count, oF_index, oF_index3, opR_f, dB_s, fAdd_ii, fSub_ii, fNeg_i, fLen_L, fLen_T, fLen_D, fInt_i, dLt_ii, dGt_ii, dLe_ii, fIdx_L, fIdx_T, fRev_L, fRev_T, fList_L, fList_T, fTuple_L, fTuple_T, fMin2_ii, fMax2_ii, fSlH_T, fSlL_T, fSlH_L, fSlL_L, at_0, at_1, dEq_ii, dEq_bb, dEq_tw, dIn_tw, dIn_iT, dIn_iL, evE_chn, evE_meth, chnO_t, chnO_f, evL_meth, evL_mut, evL_chn, evS_unp, evS_fgt, isIntD, isBoolD, isTupleD, isListD, isSeqD, Bool.not_true, Bool.not_false, items1, itemsF, Dt.listOf, decide_true, decide_false, a1, h1, Bool.false_and]
      | true => simp only [evS_seq, evS_skip, evS_frz, evS_set, evS_exp, evS_ret, evS_ite, evS_par, evS_putS, evS_putA, evS_for, evT_op, evT_call, evT_var, evT_bl, evT_and, evT_or, evT_not, evE_var, evE_non, evE_bl, evE_int, evE_str, evE_op, evE_and, evE_or, evE_not, evE_ite, evE_tup, evE_lst, fin0, fin1, fin2, fin3, evE_dsp, evE_call, evE_mut, evE_lc, evE_lc2, evE_dc, evL_nil, evL_pk, evL_lnt, evL_var, evL_non, evL_bl, evL_int, evL_str, evL_op, evL_tup, evL_lst, evL_call, evL_lc, evL_lc2, evL_dc, evL_ite, evL_and, evL_or, evL_not, bind_ok, ofE_ok, ofO_some, next_nx, next_ret, rdS_0, rdS_s, Option.isSome_some, if_true, Bool.false_eq_true, if_false, lnts, callO, back, endF, readAll, Option.map_some, Option.bind_some, List.set_cons_zero, List.set_cons_succ, asgT, Dt.truthy, oF_add, oF_sub, oF_neg, oF_eq, oF_ne, oF_lt, oF_gt, oF_le, oF_ge, oF_in, oF_nin, oF_isN, oF_notN, oF_idx, oF_slice, oF_sliceL, oF_sliceH, oF_rev, oF_len, oF_int, oF_min2, oF_max2, oF_list, oF_tuple, oF_sorted, oF_all, oF_any, oF_isInt, oF_isBool, oF_isTuple, oF_isList, oF_isStr, oF_range1, oF_range2, oF_count, oF_index, oF_index3, opR_f, dB_s, fAdd_ii, fSub_ii, fNeg_i, fLen_L, fLen_T, fLen_D, fInt_i, dLt_ii, dGt_ii, dLe_ii, fIdx_L, fIdx_T, fRev_L, fRev_T, fList_L, fList_T, fTuple_L, fTuple_T, fMin2_ii, fMax2_ii, fSlH_T, fSlL_T, fSlH_L, fSlL_L, at_0, at_1, dEq_ii, dEq_bb, dEq_tw, dIn_tw, dIn_iT, dIn_iL, evE_chn, evE_meth, chnO_t, chnO_f, evL_meth, evL_mut, evL_chn, evS_unp, evS_fgt, isIntD, isBoolD, isTupleD, isListD, isSeqD, Bool.not_true, Bool.not_false, items1, itemsF, Dt.listOf, decide_true, decide_false, a1, h1, Bool.true_and, Option.map_some]
    · have e : fAdd (.tuple (iL w)) (.tuple [.int b]) = some (.tuple (iL w ++ [.int b])) := fAdd_TT (by rw [List.length_map]; simp; omega)
      have e2 : fE w (tw (a, b)) = .tuple (iL w ++ [.int b]) := by
        show tp (w ++ [b]) = _
        unfold tp iL
        rw [List.map_append]
        rfl
      simp only [evS_seq, evS_skip, evS_frz, evS_set, evS_exp, evS_ret, evS_ite, evS_par, evS_putS, evS_putA, evS_for, evT_op, evT_call, evT_var, evT_bl, evT_and, evT_or, evT_not, evE_var, evE_non, evE_bl, evE_int, evE_str, evE_op, evE_and, evE_or, evE_not, evE_ite, evE_tup, evE_lst, fin0, fin1, fin2, fin3, evE_dsp, evE_call, evE_mut, evE_lc, evE_lc2, evE_dc, evL_nil, evL_pk, evL_lnt, evL_var, evL_non, evL_bl, evL_int, evL_str, evL_op, evL_tup, evL_lst, evL_call, evL_lc, evL_lc2, evL_dc, evL_ite, evL_and, evL_or, evL_not, bind_ok, ofE_ok, ofO_some, next_nx, next_ret, rdS_0, rdS_s, Option.isSome_some, if_true, Bool.false_eq_true, if_false, lnts, callO, back, endF, readAll, Option.map_some, Option.bind_some, List.set_cons_zero, List.set_cons_succ, asgT, Dt.truthy, oF_add, oF_sub, oF_neg, oF_eq, oF_ne, oF_lt, oF_gt, oF_le, oF_ge, oF_in, oF_nin, oF_isN, oF_notN, oF_idx, oF_slice, oF_sliceL, oF_sliceH, oF_rev, oF_len, oF_int, oF_min2, oF_max2, oF_list, oF_tuple, oF_sorted, oF_all, oF_any, oF_isInt, oF_isBool, oF_isTuple, oF_isList, oF_isStr, oF_range1, oF_range2, oF_count, oF_index, oF_index3, opR_f, dB_s, fAdd_ii, fSub_ii, fNeg_i, fLen_L, fLen_T, fLen_D, fInt_i, dLt_ii, dGt_ii, dLe_ii, fIdx_L, fIdx_T, fRev_L, fRev_T, fList_L, fList_T, fTuple_L, fTuple_T, fMin2_ii, fMax2_ii, fSlH_T, fSlL_T, fSlH_L, fSlL_L, at_0, at_1, dEq_ii, dEq_bb, dEq_tw, dIn_tw, dIn_iT, dIn_iL, evE_chn, evE_meth, chnO_t, chnO_f, evL_meth, evL_mut, evL_chn, evS_unp, evS_fgt, isIntD, isBoolD, isTupleD, isListD, isSeqD, Bool.not_true, Bool.not_false, items1, itemsF, Dt.listOf, decide_true, decide_false, e, e2]
  have e : fAdd (.list (M.map tp)) (.list ((ext ds w).map tp)) = some (.list ((M ++ ext ds w).map tp)) := by
    rw [fAdd_LL (by rw [List.length_map, List.length_map]; omega), List.map_append]
  unfold forF
  simp only [evS_seq, evS_skip, evS_frz, evS_set, evS_exp, evS_ret, evS_ite, evS_par, evS_putS, evS_putA, evS_for, evT_op, evT_call, evT_var, evT_bl, evT_and, evT_or, evT_not, evE_var, evE_non, evE_bl, evE_int, evE_str, evE_op, evE_and, evE_or, evE_not, evE_ite, evE_tup, evE_lst, fin0, fin1, fin2, fin3, evE_dsp, evE_call, evE_mut, evE_lc, evE_lc2, evE_dc, evL_nil, evL_pk, evL_lnt, evL_var, evL_non, evL_bl, evL_int, evL_str, evL_op, evL_tup, evL_lst, evL_call, evL_lc, evL_lc2, evL_dc, evL_ite, evL_and, evL_or, evL_not, bind_ok, ofE_ok, ofO_some, next_nx, next_ret, rdS_0, rdS_s, Option.isSome_some, if_true, Bool.false_eq_true, if_false, lnts, callO, back, endF, readAll, Option.map_some, Option.bind_some, List.set_cons_zero, List.set_cons_succ, asgT, Dt.truthy, oF_add, oF_sub, oF_neg, oF_eq, oF_ne, oF_lt, oF_gt, oF_le, oF_ge, oF_in, oF_nin, oF_isN, oF_notN, oF_idx, oF_slice, oF_sliceL, oF_sliceH, oF_rev, oF_len, oF_int, oF_min2, oF_max2, oF_list, oF_tuple, oF_sorted, oF_all, oF_any, oF_isInt, oF_isBool, oF_isTuple, oF_isList, oF_isStr, oF_range1, oF_range2, oF_count, oF_index, oF_index3, opR_f, dB_s, fAdd_ii, fSub_ii, fNeg_i, fLen_L, fLen_T, fLen_D, fInt_i, dLt_ii, dGt_ii, dLe_ii, fIdx_L, fIdx_T, fRev_L, fRev_T, fList_L, fList_T, fTuple_L, fTuple_T, fMin2_ii, fMax2_ii, fSlH_T, fSlL_T, fSlH_L, fSlL_L, at_0, at_1, dEq_ii, dEq_bb, dEq_tw, dIn_tw, dIn_iT, dIn_iL, evE_chn, evE_meth, chnO_t, chnO_f, evL_meth, evL_mut, evL_chn, evS_unp, evS_fgt, isIntD, isBoolD, isTupleD, isListD, isSeqD, Bool.not_true, Bool.not_false, items1, itemsF, Dt.listOf, decide_true, decide_false, r, e]
end K14
end
section
set_option Elab.async false
set_option linter.all false
set_option maxRecDepth 100000
set_option maxHeartbeats 4000000
namespace K14
open PySem Dt
theorem s_more (V : Ev) (n : Int) (ds : List (Int × Int)) (Fd Fr : List (List Int)) (l : Nat) (o7 : Option D) (A : Ar n ds) (h : ∀ w ∈ Fr, Lv n l w) (hF : Fr.length ≤ 100800) :
    ∃ (M : List (List Int)) (o7' : Option D), forLoop (forF V (.v 7) bX) (Fr.map tp) (σX n ds Fd Fr (some (.list [])) o7) = .nx (σX n ds Fd Fr (some (.list (M.map tp))) o7') ∧ (∀ w ∈ M, Lv n (l + 1) w) ∧ M.length ≤ Fr.length * (9 - l) := by
  obtain ⟨σ', q1, rs, M, o7', rfl, er, r1, r2, r3⟩ := for_inv (f := forF V (.v 7) bX) (items := Fr.map tp) (σ := σX n ds Fd Fr (some (.list (([] : List (List Int)).map tp))) o7)
    (fun rest σ => ∃ (rs M : List (List Int)) (o7' : Option D), σ = σX n ds Fd Fr (some (.list (M.map tp))) o7' ∧ rest = rs.map tp ∧ (∀ w ∈ rs, Lv n l w) ∧ (∀ w ∈ M, Lv n (l + 1) w) ∧ rs.length ≤ Fr.length ∧ M.length ≤ (Fr.length - rs.length) * (9 - l))
    ⟨Fr, [], o7, rfl, rfl, h, fun _ hw => (nomatch hw), Nat.le_refl _, by simp⟩ (by
      rintro d rest σ _ ⟨rs, M, o7', rfl, er, r1, r2, r3, r4⟩
      cases rs with
      | nil => cases er
      | cons w rs =>
        simp only [List.map_cons, List.cons.injEq] at er
        obtain ⟨rfl, rfl⟩ := er
        have hw := r1 w (List.mem_cons_self ..)
        obtain ⟨x1, x2⟩ := ext_lv A hw
        rw [List.length_cons] at r3 r4
        have two := hw.two
        have k0 : (Fr.length - (rs.length + 1)) * (9 - l) ≤ 100800 * 9 := Nat.mul_le_mul (by omega) (by omega)
        refine ⟨_, .inl (s_ext V n ds Fd Fr M l w o7' A hw (by omega)), rs, _, _, rfl, rfl, fun v hv => r1 v (List.mem_cons_of_mem _ hv), fun v hv => (List.mem_append.mp hv).elim (r2 v) (x2 v), by omega, ?_⟩
        rw [List.length_append]
        have e : Fr.length - rs.length = (Fr.length - (rs.length + 1)) + 1 := by omega
        rw [e, Nat.add_mul, Nat.one_mul]
        omega)
  cases rs with
  | cons _ _ => cases er
  | nil => exact ⟨M, o7', q1, r2, by simpa using r3.2⟩
def BW : Nat → Nat
  | 0 => 20
  | m + 1 => BW m * (9 - (m + 2))
theorem BW_le : ∀ m, m ≤ 8 → BW m ≤ 100800 := by decide
theorem BW_8 : BW 8 = 0 := by decide
abbrev bXX : S := (.seq (.par (.cons (.v 2) (.cons (.v 6) .nil)) (.cons (.op .add false (.cons (.pk 2) (.cons (.pk 3) .nil))) (.cons (.lst .F .nil) .nil)))
  (.seq (.for (.v 7) .seq (.cons (.var 3) .nil) bX)
  (.seq (.set 3 (.var 6))
  .skip)))
abbrev tXX : E := (.op .ne false (.cons (.pk 3) (.cons (.lst .F .nil) .nil)))
theorem s_turn (V : Ev) (n : Int) (ds : List (Int × Int)) (Fd Fr : List (List Int)) (l : Nat) (o6 o7 : Option D) (A : Ar n ds) (h : ∀ w ∈ Fr, Lv n l w) (hF : Fr.length ≤ 100800) (hd : Fd.length ≤ 1000000) :
    ∃ (M : List (List Int)) (o6' o7' : Option D), evS V bXX (σX n ds Fd Fr o6 o7) = .nx (σX n ds (Fd ++ Fr) M o6' o7') ∧ (∀ w ∈ M, Lv n (l + 1) w) ∧ M.length ≤ Fr.length * (9 - l) := by
  obtain ⟨M, o7', e, m1, m2⟩ := s_more V n ds (Fd ++ Fr) Fr l o7 A h hF
  refine ⟨M, some (.list (M.map tp)), o7', ?_, m1, m2⟩
  have a : fAdd (.list (Fd.map tp)) (.list (Fr.map tp)) = some (.list ((Fd ++ Fr).map tp)) := by
    rw [fAdd_LL (by rw [List.length_map, List.length_map]; omega), List.map_append]
  simp only [evS_seq, evS_skip, evS_frz, evS_set, evS_exp, evS_ret, evS_ite, evS_par, evS_putS, evS_putA, evS_for, evT_op, evT_call, evT_var, evT_bl, evT_and, evT_or, evT_not, evE_var, evE_non, evE_bl, evE_int, evE_str, evE_op, evE_and, evE_or, evE_not, evE_ite, evE_tup, evE_lst, fin0, fin1, fin2, fin3, evE_dsp, evE_call, evE_mut, evE_lc, evE_lc2, evE_dc, evL_nil, evL_pk, evL_lnt, evL_var, evL_non, evL_bl, evL_int, evL_str, evL_op, evL_tup, evL_lst, evL_call, evL_lc, evL_lc2, evL_dc, evL_ite, evL_and, evL_or, evL_not, bind_ok, ofE_ok, ofO_some, next_nx, next_ret, rdS_0, rdS_s, Option.isSome_some, if_true, Bool.false_eq_true, if_false, lnts, callO, back, endF, readAll, Option.map_some, Option.bind_some, List.set_cons_zero, List.set_cons_succ, asgT, Dt.truthy, oF_add, oF_sub, oF_neg, oF_eq, oF_ne, oF_lt, oF_gt, oF_le, oF_ge, oF_in, oF_nin, oF_isN, oF_notN, oF_idx, oF_slice, oF_sliceL, oF_sliceH, oF_rev, oF_len, oF_int, oF_min2, oF_max2, oF_list, oF_tuple, oF_sorted, oF_all, oF_any, oF_isInt, oF_isBool, oF_isTuple, oF_isList, oF_isStr, oF_range1, oF_range2, oF_count, oF_index, oF_index3, opR_f, dB_s, fAdd_ii, fSub_ii, fNeg_i, fLen_L, fLen_T, fLen_D, fInt_i, dLt_ii, dGt_ii, dLe_ii, fIdx_L, fIdx_T, fRev_L, fRev_T, fList_L, fList_T, fTuple_L, fTuple_T, fMin2_ii, fMax2_ii, fSlH_T, fSlL_T, fSlH_L, fSlL_L, at_0, at_1, dEq_ii, dEq_bb, dEq_tw, dIn_tw, dIn_iT, dIn_iL, evE_chn, evE_meth, chnO_t, chnO_f, evL_meth, evL_mut, evL_chn, evS_unp, evS_fgt, isIntD, isBoolD, isTupleD, isListD, isSeqD, Bool.not_true, Bool.not_false, items1, itemsF, Dt.listOf, decide_true, decide_false, a]
  rw [e]
  simp only [evS_seq, evS_skip, evS_frz, evS_set, evS_exp, evS_ret, evS_ite, evS_par, evS_putS, evS_putA, evS_for, evT_op, evT_call, evT_var, evT_bl, evT_and, evT_or, evT_not, evE_var, evE_non, evE_bl, evE_int, evE_str, evE_op, evE_and, evE_or, evE_not, evE_ite, evE_tup, evE_lst, fin0, fin1, fin2, fin3, evE_dsp, evE_call, evE_mut, evE_lc, evE_lc2, evE_dc, evL_nil, evL_pk, evL_lnt, evL_var, evL_non, evL_bl, evL_int, evL_str, evL_op, evL_tup, evL_lst, evL_call, evL_lc, evL_lc2, evL_dc, evL_ite, evL_and, evL_or, evL_not, bind_ok, ofE_ok, ofO_some, next_nx, next_ret, rdS_0, rdS_s, Option.isSome_some, if_true, Bool.false_eq_true, if_false, lnts, callO, back, endF, readAll, Option.map_some, Option.bind_some, List.set_cons_zero, List.set_cons_succ, asgT, Dt.truthy, oF_add, oF_sub, oF_neg, oF_eq, oF_ne, oF_lt, oF_gt, oF_le, oF_ge, oF_in, oF_nin, oF_isN, oF_notN, oF_idx, oF_slice, oF_sliceL, oF_sliceH, oF_rev, oF_len, oF_int, oF_min2, oF_max2, oF_list, oF_tuple, oF_sorted, oF_all, oF_any, oF_isInt, oF_isBool, oF_isTuple, oF_isList, oF_isStr, oF_range1, oF_range2, oF_count, oF_index, oF_index3, opR_f, dB_s, fAdd_ii, fSub_ii, fNeg_i, fLen_L, fLen_T, fLen_D, fInt_i, dLt_ii, dGt_ii, dLe_ii, fIdx_L, fIdx_T, fRev_L, fRev_T, fList_L, fList_T, fTuple_L, fTuple_T, fMin2_ii, fMax2_ii, fSlH_T, fSlL_T, fSlH_L, fSlL_L, at_0, at_1, dEq_ii, dEq_bb, dEq_tw, dIn_tw, dIn_iT, dIn_iL, evE_chn, evE_meth, chnO_t, chnO_f, evL_meth, evL_mut, evL_chn, evS_unp, evS_fgt, isIntD, isBoolD, isTupleD, isListD, isSeqD, Bool.not_true, Bool.not_false, items1, itemsF, Dt.listOf, decide_true, decide_false]
theorem whl_step {t : Sl → Out Bool} {f : Sl → SOut} {j : Nat} {σ σ1 σ2 : Sl} (h : t σ = .ok true σ1) (e : f σ1 = .nx σ2) : whlLoop t f (j + 1) σ = whlLoop t f j σ2 := by
  simp only [whlLoop, h, SOut.ofE, if_true, e]
theorem whl_end {t : Sl → Out Bool} {f : Sl → SOut} {j : Nat} {σ σ1 : Sl} (h : t σ = .ok false σ1) : whlLoop t f (j + 1) σ = .nx σ1 := by
  simp only [whlLoop, h, SOut.ofE, Bool.false_eq_true, if_false]
theorem whl_ways (V : Ev) (n : Int) (ds : List (Int × Int)) (A : Ar n ds) : ∀ (m j : Nat) (Fd Fr : List (List Int)) (o6 o7 : Option D), m ≤ 8 → 9 ≤ m + j → (∀ w ∈ Fr, Lv n (m + 2) w) → Fr.length ≤ BW m → (∀ w ∈ Fd, 2 ≤ w.length ∧ w.length ≤ 10) → Fd.length ≤ m * 100800 →
    ∃ (Fd' : List (List Int)) (Fr' : List (List Int)) (o6' o7' : Option D), whlLoop (evT V tXX) (evS V bXX) j (σX n ds Fd Fr o6 o7) = .nx (σX n ds Fd' Fr' o6' o7') ∧ (∀ w ∈ Fd', 2 ≤ w.length ∧ w.length ≤ 10) ∧ Fd'.length ≤ 1000000
  | m, 0, _, _, _, _, hm, hj, _, _, _, _ => by omega
  | m, j + 1, Fd, Fr, o6, o7, hm, hj, h1, h2, h3, h4 => by
    have hb := BW_le m hm
    have hd : m * 100800 ≤ 8 * 100800 := Nat.mul_le_mul hm (Nat.le_refl _)
    have t : evT V tXX (σX n ds Fd Fr o6 o7) = .ok (!(Fr.map tp).isEmpty) (σX n ds Fd Fr o6 o7) := by
      simp only [evS_seq, evS_skip, evS_frz, evS_set, evS_exp, evS_ret, evS_ite, evS_par, evS_putS, evS_putA, evS_for, evT_op, evT_call, evT_var, evT_bl, evT_and, evT_or, evT_not, evE_var, evE_non, evE_bl, evE_int, evE_str, evE_op, evE_and, evE_or, evE_not, evE_ite, evE_tup, evE_lst, fin0, fin1, fin2, fin3, evE_dsp, evE_call, evE_mut, evE_lc, evE_lc2, evE_dc, evL_nil, evL_pk, evL_lnt, evL_var, evL_non, evL_bl, evL_int, evL_str, evL_op, evL_tup, evL_lst, evL_call, evL_lc, evL_lc2, evL_dc, evL_ite, evL_and, evL_or, evL_not, bind_ok, ofE_ok, ofO_some, next_nx, next_ret, rdS_0, rdS_s, Option.isSome_some, if_true, Bool.false_eq_true, if_false, lnts, callO, back, endF, readAll, Option.map_some, Option.bind_some, List.set_cons_zero, List.set_cons_succ, asgT, Dt.truthy, oF_add, oF_sub, oF_neg, oF_eq, oF_ne, oF_lt, oF_gt, oF_le, oF_ge, oF_in, oF_nin, oF_isN, oF_notN, oF_idx, oF_slice, oF_sliceL, oF_sliceH, oF_rev, oF_len, oF_int, oF_min2, oF_max2, oF_list, oF_tuple, oF_sorted, oF_all, oF_any, oF_isInt, oF_isBool, oF_isTuple, oF_isList, oF_isStr, oF_range1, oF_range2, oF_count, oF_index, oF_index3, opR_f, dB_s, fAdd_ii, fSub_ii, fNeg_i, fLen_L, fLen_T, fLen_D, fInt_i, dLt_ii, dGt_ii, dLe_ii, fIdx_L, fIdx_T, fRev_L, fRev_T, fList_L, fList_T, fTuple_L, fTuple_T, fMin2_ii, fMax2_ii, fSlH_T, fSlL_T, fSlH_L, fSlL_L, at_0, at_1, dEq_ii, dEq_bb, dEq_tw, dIn_tw, dIn_iT, dIn_iL, evE_chn, evE_meth, chnO_t, chnO_f, evL_meth, evL_mut, evL_chn, evS_unp, evS_fgt, isIntD, isBoolD, isTupleD, isListD, isSeqD, Bool.not_true, Bool.not_false, items1, itemsF, Dt.listOf, decide_true, decide_false, dEq_nil (okL_tps Fr), Option.map_some]
    cases Fr with
    | nil => exact ⟨Fd, [], o6, o7, whl_end t, h3, by omega⟩
    | cons w Fr =>
      have hm8 : m < 8 := by
        rcases Nat.lt_or_ge m 8 with q | q
        · exact q
        · have : m = 8 := by omega
          subst this
          rw [BW_8] at h2
          simp at h2
      obtain ⟨M, o6', o7', e, m1, m2⟩ := s_turn V n ds Fd (w :: Fr) (m + 2) o6 o7 A h1 (by omega) (by omega)
      rw [whl_step t e]
      refine whl_ways V n ds A (m + 1) j (Fd ++ (w :: Fr)) M o6' o7' hm8 (by omega) m1 (Nat.le_trans m2 ?_) (fun v hv => ?_) ?_
      · show (w :: Fr).length * (9 - (m + 2)) ≤ BW m * (9 - (m + 2))
        exact Nat.mul_le_mul h2 (Nat.le_refl _)
      · rcases List.mem_append.mp hv with hv | hv
        · exact h3 v hv
        · have := (h1 v hv).len
          omega
      · rw [List.length_append, Nat.add_mul]
        omega
theorem f_ways (k : Nat) (n : Int) (ds : List (Int × Int)) (A : Ar n ds) : ∃ W : List (List Int), Dt.run P0 12 (k + 1) 28 [.int n, tws ds] = .ret (.list (W.map tp)) [] ∧ ∀ w ∈ W, 2 ≤ w.length ∧ w.length ≤ 10 := by
  have hl := A.len
  obtain ⟨W, Fr, o6, o7, e, w1, w2⟩ := whl_ways ⟨Dt.run P0 12 k, 12, P0.sub⟩ n ds A 0 12 [] (ds.map fun q => [q.1, q.2]) none none (by decide) (by decide) (fun w hw => by
    obtain ⟨q, hq, rfl⟩ := List.mem_map.mp hw
    obtain ⟨q1, q2, q3⟩ := A.mem q hq
    exact ⟨rfl, by decide, by simp [q3], fun x hx => by
      rcases List.mem_cons.mp hx with rfl | hx
      · exact q1
      · cases List.mem_singleton.mp hx
        exact q2⟩) (by rw [List.length_map]; exact hl) (fun w hw => (nomatch hw)) (by simp)
  refine ⟨W, ?_, w1⟩
  have e0 : (ds.map fun q => [q.1, q.2]).map tp = ds.map tw := by rw [List.map_map]; rfl
  rw [run__law_ways]
  unfold b__law_ways
  simp only [evS_seq, evS_skip, evS_frz, evS_set, evS_exp, evS_ret, evS_ite, evS_par, evS_putS, evS_putA, evS_for, evT_op, evT_call, evT_var, evT_bl, evT_and, evT_or, evT_not, evE_var, evE_non, evE_bl, evE_int, evE_str, evE_op, evE_and, evE_or, evE_not, evE_ite, evE_tup, evE_lst, fin0, fin1, fin2, fin3, evE_dsp, evE_call, evE_mut, evE_lc, evE_lc2, evE_dc, evL_nil, evL_pk, evL_lnt, evL_var, evL_non, evL_bl, evL_int, evL_str, evL_op, evL_tup, evL_lst, evL_call, evL_lc, evL_lc2, evL_dc, evL_ite, evL_and, evL_or, evL_not, bind_ok, ofE_ok, ofO_some, next_nx, next_ret, rdS_0, rdS_s, Option.isSome_some, if_true, Bool.false_eq_true, if_false, lnts, callO, back, endF, readAll, Option.map_some, Option.bind_some, List.set_cons_zero, List.set_cons_succ, asgT, Dt.truthy, oF_add, oF_sub, oF_neg, oF_eq, oF_ne, oF_lt, oF_gt, oF_le, oF_ge, oF_in, oF_nin, oF_isN, oF_notN, oF_idx, oF_slice, oF_sliceL, oF_sliceH, oF_rev, oF_len, oF_int, oF_min2, oF_max2, oF_list, oF_tuple, oF_sorted, oF_all, oF_any, oF_isInt, oF_isBool, oF_isTuple, oF_isList, oF_isStr, oF_range1, oF_range2, oF_count, oF_index, oF_index3, opR_f, dB_s, fAdd_ii, fSub_ii, fNeg_i, fLen_L, fLen_T, fLen_D, fInt_i, dLt_ii, dGt_ii, dLe_ii, fIdx_L, fIdx_T, fRev_L, fRev_T, fList_L, fList_T, fTuple_L, fTuple_T, fMin2_ii, fMax2_ii, fSlH_T, fSlL_T, fSlH_L, fSlL_L, at_0, at_1, dEq_ii, dEq_bb, dEq_tw, dIn_tw, dIn_iT, dIn_iL, evE_chn, evE_meth, chnO_t, chnO_f, evL_meth, evL_mut, evL_chn, evS_unp, evS_fgt, isIntD, isBoolD, isTupleD, isListD, isSeqD, Bool.not_true, Bool.not_false, items1, itemsF, Dt.listOf, decide_true, decide_false]
  rw [run_pure (fun _ => true) id (w0 := [some (.int n), some (tws ds), none, none, none, none, none, none]) rfl (by rw [sl24, List.length_map]; omega) fun d hd => by
    obtain ⟨⟨a, b⟩, _, rfl⟩ := List.mem_map.mp hd
    exact ⟨[some (.int n), some (tws ds), none, none, some (.int a), some (.int b), none, none], rfl, rfl, by simp only [evS_seq, evS_skip, evS_frz, evS_set, evS_exp, evS_ret, evS_ite, evS_par, evS_putS, evS_putA, evS_for, evT_op, evT_call, evT_var, evT_bl, evT_and, evT_or, evT_not, evE_var, evE_non, evE_bl, evE_int, evE_str, evE_op, evE_and, evE_or, evE_not, evE_ite, evE_tup, evE_lst, fin0, fin1, fin2, fin3, evE_dsp, evE_call, evE_mut, evE_lc, evE_lc2, evE_dc, evL_nil, evL_pk, evL_lnt, evL_var, evL_non, evL_bl, evL_int, evL_str, evL_op, evL_tup, evL_lst, evL_call, evL_lc, evL_lc2, evL_dc, evL_ite, evL_and, evL_or, evL_not, bind_ok, ofE_ok, ofO_some, next_nx, next_ret, rdS_0, rdS_s, Option.isSome_some, if_true, Bool.false_eq_true, if_false, lnts, callO, back, endF, readAll, Option.map_some, Option.bind_some, List.set_cons_zero, List.set_cons_succ, asgT, Dt.truthy, oF_add, oF_sub, oF_neg, oF_eq, oF_ne, oF_lt, oF_gt, oF_le, oF_ge, oF_in, oF_nin, oF_isN, oF_notN, oF_idx, oF_slice, oF_sliceL, oF_sliceH, oF_rev, oF_len, oF_int, oF_min2, oF_max2, oF_list, oF_tuple, oF_sorted, oF_all, oF_any, oF_isInt, oF_isBool, oF_isTuple, oF_isList, oF_isStr, oF_range1, oF_range2, oF_count, oF_index, oF_index3, opR_f, dB_s, fAdd_ii, fSub_ii, fNeg_i, fLen_L, fLen_T, fLen_D, fInt_i, dLt_ii, dGt_ii, dLe_ii, fIdx_L, fIdx_T, fRev_L, fRev_T, fList_L, fList_T, fTuple_L, fTuple_T, fMin2_ii, fMax2_ii, fSlH_T, fSlL_T, fSlH_L, fSlL_L, at_0, at_1, dEq_ii, dEq_bb, dEq_tw, dIn_tw, dIn_iT, dIn_iL, evE_chn, evE_meth, chnO_t, chnO_f, evL_meth, evL_mut, evL_chn, evS_unp, evS_fgt, isIntD, isBoolD, isTupleD, isListD, isSeqD, Bool.not_true, Bool.not_false, items1, itemsF, Dt.listOf, decide_true, decide_false], fun _ => by simp only [evS_seq, evS_skip, evS_frz, evS_set, evS_exp, evS_ret, evS_ite, evS_par, evS_putS, evS_putA, evS_for, evT_op, evT_call, evT_var, evT_bl, evT_and, evT_or, evT_not, evE_var, evE_non, evE_bl, evE_int, evE_str, evE_op, evE_and, evE_or, evE_not, evE_ite, evE_tup, evE_lst, fin0, fin1, fin2, fin3, evE_dsp, evE_call, evE_mut, evE_lc, evE_lc2, evE_dc, evL_nil, evL_pk, evL_lnt, evL_var, evL_non, evL_bl, evL_int, evL_str, evL_op, evL_tup, evL_lst, evL_call, evL_lc, evL_lc2, evL_dc, evL_ite, evL_and, evL_or, evL_not, bind_ok, ofE_ok, ofO_some, next_nx, next_ret, rdS_0, rdS_s, Option.isSome_some, if_true, Bool.false_eq_true, if_false, lnts, callO, back, endF, readAll, Option.map_some, Option.bind_some, List.set_cons_zero, List.set_cons_succ, asgT, Dt.truthy, oF_add, oF_sub, oF_neg, oF_eq, oF_ne, oF_lt, oF_gt, oF_le, oF_ge, oF_in, oF_nin, oF_isN, oF_notN, oF_idx, oF_slice, oF_sliceL, oF_sliceH, oF_rev, oF_len, oF_int, oF_min2, oF_max2, oF_list, oF_tuple, oF_sorted, oF_all, oF_any, oF_isInt, oF_isBool, oF_isTuple, oF_isList, oF_isStr, oF_range1, oF_range2, oF_count, oF_index, oF_index3, opR_f, dB_s, fAdd_ii, fSub_ii, fNeg_i, fLen_L, fLen_T, fLen_D, fInt_i, dLt_ii, dGt_ii, dLe_ii, fIdx_L, fIdx_T, fRev_L, fRev_T, fList_L, fList_T, fTuple_L, fTuple_T, fMin2_ii, fMax2_ii, fSlH_T, fSlL_T, fSlH_L, fSlL_L, at_0, at_1, dEq_ii, dEq_bb, dEq_tw, dIn_tw, dIn_iT, dIn_iL, evE_chn, evE_meth, chnO_t, chnO_f, evL_meth, evL_mut, evL_chn, evS_unp, evS_fgt, isIntD, isBoolD, isTupleD, isListD, isSeqD, Bool.not_true, Bool.not_false, items1, itemsF, Dt.listOf, decide_true, decide_false, id]⟩]
  rw [List.filter_eq_self.mpr fun _ _ => rfl, List.map_id]
  have e : whlLoop (evT ⟨Dt.run P0 12 k, 12, P0.sub⟩ tXX) (evS ⟨Dt.run P0 12 k, 12, P0.sub⟩ bXX) 12 [some (.int n), some (tws ds), some (.list []), some (.list (ds.map tw)), none, none, none, none] = .nx (σX n ds W Fr o6 o7) := by
    rw [← e, ← e0]
    rfl
  simp only [bind_ok, evL_nil, evL_lst, evE_lst0, ofE_ok, asgT, Option.bind_some, List.set_cons_zero, List.set_cons_succ, next_nx, evS_seq, evS_whl]
  rw [e]
  simp only [evS_seq, evS_skip, evS_frz, evS_set, evS_exp, evS_ret, evS_ite, evS_par, evS_putS, evS_putA, evS_for, evT_op, evT_call, evT_var, evT_bl, evT_and, evT_or, evT_not, evE_var, evE_non, evE_bl, evE_int, evE_str, evE_op, evE_and, evE_or, evE_not, evE_ite, evE_tup, evE_lst, fin0, fin1, fin2, fin3, evE_dsp, evE_call, evE_mut, evE_lc, evE_lc2, evE_dc, evL_nil, evL_pk, evL_lnt, evL_var, evL_non, evL_bl, evL_int, evL_str, evL_op, evL_tup, evL_lst, evL_call, evL_lc, evL_lc2, evL_dc, evL_ite, evL_and, evL_or, evL_not, bind_ok, ofE_ok, ofO_some, next_nx, next_ret, rdS_0, rdS_s, Option.isSome_some, if_true, Bool.false_eq_true, if_false, lnts, callO, back, endF, readAll, Option.map_some, Option.bind_some, List.set_cons_zero, List.set_cons_succ, asgT, Dt.truthy, oF_add, oF_sub, oF_neg, oF_eq, oF_ne, oF_lt, oF_gt, oF_le, oF_ge, oF_in, oF_nin, oF_isN, oF_notN, oF_idx, oF_slice, oF_sliceL, oF_sliceH, oF_rev, oF_len, oF_int, oF_min2, oF_max2, oF_list, oF_tuple, oF_sorted, oF_all, oF_any, oF_isInt, oF_isBool, oF_isTuple, oF_isList, oF_isStr, oF_range1, oF_range2, oF_count, oF_index, oF_index3, opR_f, dB_s, fAdd_ii, fSub_ii, fNeg_i, fLen_L, fLen_T, fLen_D, fInt_i, dLt_ii, dGt_ii, dLe_ii, fIdx_L, fIdx_T, fRev_L, fRev_T, fList_L, fList_T, fTuple_L, fTuple_T, fMin2_ii, fMax2_ii, fSlH_T, fSlL_T, fSlH_L, fSlL_L, at_0, at_1, dEq_ii, dEq_bb, dEq_tw, dIn_tw, dIn_iT, dIn_iL, evE_chn, evE_meth, chnO_t, chnO_f, evL_meth, evL_mut, evL_chn, evS_unp, evS_fgt, isIntD, isBoolD, isTupleD, isListD, isSeqD, Bool.not_true, Bool.not_false, items1, itemsF, Dt.listOf, decide_true, decide_false]
end K14
end
section
set_option Elab.async false
set_option linter.all false
set_option maxRecDepth 100000
set_option maxHeartbeats 4000000
namespace K14
open PySem Dt
def sndD : D → D
  | .tuple [.int _, .int b] => .int b
  | d => d
def ends (ds : List (Int × Int)) (w : List Int) : List Int := (ds.filter fun q => decide (q.1 = lastI w) && !decide (q.2 ∈ w)).map fun q => q.2
theorem ends_eq (ds : List (Int × Int)) (w : List Int) : ((ds.map tw).filter (pE w)).map sndD = iL (ends ds w) := by
  unfold ends iL
  rw [List.filter_map, List.map_map, List.map_map]
  rfl
abbrev bY : S := (.seq (.set 5 (.lc [6, 7] (.cons (.v 6) (.cons (.v 7) .nil)) .seq (.cons (.var 2) .nil) (.and (.op .eq false (.cons (.pk 6) (.cons (.op .idx false (.cons (.pk 3) (.cons (.op .neg false (.cons (.int 1) .nil)) .nil))) .nil))) (.op .notIn false (.cons (.pk 7) (.cons (.pk 3) .nil)))) .F (.var 7)))
  (.seq (.ite (.op .ne false (.cons (.pk 5) (.cons (.lst .F .nil) .nil)))
  (.seq (.exp (.mut .append 3 (.cons (.call 17 (.cons (.lnt 0) (.cons (.var 5) .nil))) .nil)))
  .skip)
  .skip)
  .skip))
abbrev σY (p : D) (n : Int) (ds : List (Int × Int)) (w : List Int) (o4 o5 : Option D) : Sl := [some p, some (.int n), some (tws ds), some (.list (iL w)), o4, o5, none, none]
theorem s_way (k : Nat) {p : D} {c : Int} (n : Int) (ds : List (Int × Int)) (x : Int) (t : List Int) (d : D) (o4 o5 : Option D) (g : Gp c p) (hc : c + 1 ≤ 1000000) (hl : ds.length ≤ 20) (hw : (x :: t).length ≤ 100) :
    ∃ (t' : List Int) (p' : D) (o5' : Option D), Gp (c + 1) p' ∧ t'.length ≤ t.length + 1 ∧ forF ⟨Dt.run P0 12 (k + 2), 12, P0.sub⟩ (.v 4) bY d (σY p n ds (x :: t) o4 o5) = .nx (σY p' n ds (x :: t') (some d) o5') := by
  have a1 : atD (iL (x :: t)) (-1) = some (.int (lastI (x :: t))) := last_iL x t
  generalize hv : x :: t = w at *
  have r : runG [6, 7] .list (turnG [6, 7] (.cons (.v 6) (.cons (.v 7) .nil)) (evT ⟨Dt.run P0 12 (k + 2), 12, P0.sub⟩ (.and (.op .eq false (.cons (.pk 6) (.cons (.op .idx false (.cons (.pk 3) (.cons (.op .neg false (.cons (.int 1) .nil)) .nil))) .nil))) (.op .notIn false (.cons (.pk 7) (.cons (.pk 3) .nil))))) (app1 (evE ⟨Dt.run P0 12 (k + 2), 12, P0.sub⟩ (.var 7)))) [] (ds.map tw) (σY p n ds w (some d) o5) = .ok (.list (iL (ends ds w))) (σY p n ds w (some d) o5) := by
    rw [← ends_eq]
    refine run_pure (pE w) sndD (w0 := σY p n ds w (some d) o5) rfl (by rw [sl24, List.length_map]; omega) fun d0 hd => ?_
    obtain ⟨⟨a, b⟩, _, rfl⟩ := List.mem_map.mp hd
    refine ⟨[some p, some (.int n), some (tws ds), some (.list (iL w)), some d, o5, some (.int a), some (.int b)], rfl, rfl, ?_, fun _ => ?_⟩
    · have e : pE w (tw (a, b)) = (decide (a = lastI w) && !decide (b ∈ w)) := rfl
      rw [e]
      cases h1 : decide (a = lastI w) with
      | false => simp only [evS_seq, evS_skip, evS_frz, evS_set, evS_exp, evS_ret, evS_ite, evS_par, evS_putS, evS_putA, evS_for, evT_op, evT_call, evT_var, evT_bl, evT_and, evT_or, evT_not, evE_var, evE_non, evE_bl, evE_int, evE_str, evE_op, evE_and, evE_or, evE_not, evE_ite, evE_tup, evE_lst, fin0, fin1, fin2, fin3, evE_dsp, evE_call, evE_mut, evE_lc, evE_lc2, evE_dc, evL_nil, evL_pk, evL_lnt, evL_var, evL_non, evL_bl, evL_int, evL_str, evL_op, evL_tup, evL_lst, evL_call, evL_lc, evL_lc2, evL_dc, evL_ite, evL_and, evL_or, evL_not, bind_ok, ofE_ok, ofO_some, next_nx, next_ret, rdS_0, rdS_s, Option.isSome_some, if_true, Bool.false_eq_true, if_false, lnts, callO, back, endF, readAll, Option.map_some, Option.bind_some, List.set_cons_zero, List.set_cons_succ, asgT, Dt.truthy, oF_add, oF_sub, oF_neg, oF_eq, oF_ne, oF_lt, oF_gt, oF_le, oF_ge, oF_in, oF_nin, oF_isN, oF_notN, oF_idx, oF_slice, oF_sliceL, oF_sliceH, oF_rev, oF_len, oF_int, oF_min2, oF_max2, oF_list, oF_tuple, oF_sorted, oF_all, oF_any, oF_isInt, oF_isBool, oF_isTuple, oF_isList, oF_isStr, oF_range1, oF_range2, oF_count, oF_index, oF_index3, opR_f, dB_s, fAdd_ii, fSub_ii, fNeg_i, fLen_L, fLen_T, fLen_D, fInt_i, dLt_ii, dGt_ii, dLe_ii, fIdx_L, fIdx_T, fRev_L, fRev_T, fList_L, fList_T, fTuple_L, fTuple_T, fMin2_ii, fMax2_ii, fSlH_T, fSlL_T, fSlH_L, fSlL_L, at_0, at_1, dEq_ii, dEq_bb, dEq_tw, dIn_tw, dIn_iT, dIn_iL, evE_chn, evE_meth, chnO_t, chnO_f, evL_meth, evL_mut, evL_chn, evS_unp, evS_fgt, isIntD, isBoolD, isTupleD, isListD, isSeqD, Bool.not_true, Bool.not_false, items1, itemsF, Dt.listOf, decide_true, decide_false, a1, h1, Bool.false_and]
      | true => simp only [evS_seq, evS_skip, evS_frz, evS_set, evS_exp, evS_ret, evS_ite, evS_par, evS_putS, evS_putA, evS_for, evT_op, evT_call, evT_var, evT_bl, evT_and, evT_or, evT_not, evE_var, evE_non, evE_bl, evE_int, evE_str, evE_op, evE_and, evE_or, evE_not, evE_ite, evE_tup, evE_lst, fin0, fin1, fin2, fin3, evE_dsp, evE_call, evE_mut, evE_lc, evE_lc2, evE_dc, evL_nil, evL_pk, evL_lnt, evL_var, evL_non, evL_bl, evL_int, evL_str, evL_op, evL_tup, evL_lst, evL_call, evL_lc, evL_lc2, evL_dc, evL_ite, evL_and, evL_or, evL_not, bind_ok, ofE_ok, ofO_some, next_nx, next_ret, rdS_0, rdS_s, Option.isSome_some, if_true, Bool.false_eq_true, if_false, lnts, callO, back, endF, readAll, Option.map_some, Option.bind_some, List.set_cons_zero, List.set_cons_succ, asgT, Dt.truthy, oF_add, oF_sub, oF_neg, oF_eq, oF_ne, oF_lt, oF_gt, oF_le, oF_ge, oF_in, oF_nin, oF_isN, oF_notN, oF_idx, oF_slice, oF_sliceL, oF_sliceH, oF_rev, oF_len, oF_int, oF_min2, oF_max2, oF_list, oF_tuple, oF_sorted, oF_all, oF_any, oF_isInt, oF_isBool, oF_isTuple, oF_isList, oF_isStr, oF_range1, oF_range2, oF_count, oF_index, oF_index3, opR_f, dB_s, fAdd_ii, fSub_ii, fNeg_i, fLen_L, fLen_T, fLen_D, fInt_i, dLt_ii, dGt_ii, dLe_ii, fIdx_L, fIdx_T, fRev_L, fRev_T, fList_L, fList_T, fTuple_L, fTuple_T, fMin2_ii, fMax2_ii, fSlH_T, fSlL_T, fSlH_L, fSlL_L, at_0, at_1, dEq_ii, dEq_bb, dEq_tw, dIn_tw, dIn_iT, dIn_iL, evE_chn, evE_meth, chnO_t, chnO_f, evL_meth, evL_mut, evL_chn, evS_unp, evS_fgt, isIntD, isBoolD, isTupleD, isListD, isSeqD, Bool.not_true, Bool.not_false, items1, itemsF, Dt.listOf, decide_true, decide_false, a1, h1, Bool.true_and, Option.map_some]
    · simp only [evS_seq, evS_skip, evS_frz, evS_set, evS_exp, evS_ret, evS_ite, evS_par, evS_putS, evS_putA, evS_for, evT_op, evT_call, evT_var, evT_bl, evT_and, evT_or, evT_not, evE_var, evE_non, evE_bl, evE_int, evE_str, evE_op, evE_and, evE_or, evE_not, evE_ite, evE_tup, evE_lst, fin0, fin1, fin2, fin3, evE_dsp, evE_call, evE_mut, evE_lc, evE_lc2, evE_dc, evL_nil, evL_pk, evL_lnt, evL_var, evL_non, evL_bl, evL_int, evL_str, evL_op, evL_tup, evL_lst, evL_call, evL_lc, evL_lc2, evL_dc, evL_ite, evL_and, evL_or, evL_not, bind_ok, ofE_ok, ofO_some, next_nx, next_ret, rdS_0, rdS_s, Option.isSome_some, if_true, Bool.false_eq_true, if_false, lnts, callO, back, endF, readAll, Option.map_some, Option.bind_some, List.set_cons_zero, List.set_cons_succ, asgT, Dt.truthy, oF_add, oF_sub, oF_neg, oF_eq, oF_ne, oF_lt, oF_gt, oF_le, oF_ge, oF_in, oF_nin, oF_isN, oF_notN, oF_idx, oF_slice, oF_sliceL, oF_sliceH, oF_rev, oF_len, oF_int, oF_min2, oF_max2, oF_list, oF_tuple, oF_sorted, oF_all, oF_any, oF_isInt, oF_isBool, oF_isTuple, oF_isList, oF_isStr, oF_range1, oF_range2, oF_count, oF_index, oF_index3, opR_f, dB_s, fAdd_ii, fSub_ii, fNeg_i, fLen_L, fLen_T, fLen_D, fInt_i, dLt_ii, dGt_ii, dLe_ii, fIdx_L, fIdx_T, fRev_L, fRev_T, fList_L, fList_T, fTuple_L, fTuple_T, fMin2_ii, fMax2_ii, fSlH_T, fSlL_T, fSlH_L, fSlL_L, at_0, at_1, dEq_ii, dEq_bb, dEq_tw, dIn_tw, dIn_iT, dIn_iL, evE_chn, evE_meth, chnO_t, chnO_f, evL_meth, evL_mut, evL_chn, evS_unp, evS_fgt, isIntD, isBoolD, isTupleD, isListD, isSeqD, Bool.not_true, Bool.not_false, items1, itemsF, Dt.listOf, decide_true, decide_false, sndD]
  cases he : (iL (ends ds w)).isEmpty with
  | true =>
    refine ⟨t, p, some (.list (iL (ends ds w))), g.mono (by omega), by omega, ?_⟩
    rw [hv]
    unfold forF
    simp only [evS_seq, evS_skip, evS_frz, evS_set, evS_exp, evS_ret, evS_ite, evS_par, evS_putS, evS_putA, evS_for, evT_op, evT_call, evT_var, evT_bl, evT_and, evT_or, evT_not, evE_var, evE_non, evE_bl, evE_int, evE_str, evE_op, evE_and, evE_or, evE_not, evE_ite, evE_tup, evE_lst, fin0, fin1, fin2, fin3, evE_dsp, evE_call, evE_mut, evE_lc, evE_lc2, evE_dc, evL_nil, evL_pk, evL_lnt, evL_var, evL_non, evL_bl, evL_int, evL_str, evL_op, evL_tup, evL_lst, evL_call, evL_lc, evL_lc2, evL_dc, evL_ite, evL_and, evL_or, evL_not, bind_ok, ofE_ok, ofO_some, next_nx, next_ret, rdS_0, rdS_s, Option.isSome_some, if_true, Bool.false_eq_true, if_false, lnts, callO, back, endF, readAll, Option.map_some, Option.bind_some, List.set_cons_zero, List.set_cons_succ, asgT, Dt.truthy, oF_add, oF_sub, oF_neg, oF_eq, oF_ne, oF_lt, oF_gt, oF_le, oF_ge, oF_in, oF_nin, oF_isN, oF_notN, oF_idx, oF_slice, oF_sliceL, oF_sliceH, oF_rev, oF_len, oF_int, oF_min2, oF_max2, oF_list, oF_tuple, oF_sorted, oF_all, oF_any, oF_isInt, oF_isBool, oF_isTuple, oF_isList, oF_isStr, oF_range1, oF_range2, oF_count, oF_index, oF_index3, opR_f, dB_s, fAdd_ii, fSub_ii, fNeg_i, fLen_L, fLen_T, fLen_D, fInt_i, dLt_ii, dGt_ii, dLe_ii, fIdx_L, fIdx_T, fRev_L, fRev_T, fList_L, fList_T, fTuple_L, fTuple_T, fMin2_ii, fMax2_ii, fSlH_T, fSlL_T, fSlH_L, fSlL_L, at_0, at_1, dEq_ii, dEq_bb, dEq_tw, dIn_tw, dIn_iT, dIn_iL, evE_chn, evE_meth, chnO_t, chnO_f, evL_meth, evL_mut, evL_chn, evS_unp, evS_fgt, isIntD, isBoolD, isTupleD, isListD, isSeqD, Bool.not_true, Bool.not_false, items1, itemsF, Dt.listOf, decide_true, decide_false, r, dEq_nil (okL_ints (ends ds w)), he, Option.map_some]
  | false =>
    have hpos : 0 < (iL (ends ds w)).length := by
      cases h : iL (ends ds w) with
      | nil => rw [h] at he; cases he
      | cons _ _ => simp
    have hlen : (iL (ends ds w)).length ≤ 20 := by
      unfold iL ends
      rw [List.length_map, List.length_map]
      exact Nat.le_trans (List.length_filter_le ..) hl
    obtain ⟨j, hj, p', e, g'⟩ := f_pick k (iL (ends ds w)) g hc hpos (by omega)
    rw [List.getElem_map] at e
    generalize (ends ds w)[j]'(by simpa using hj) = y at e
    refine ⟨t ++ [y], p', some (.list (iL (ends ds w))), g', by rw [List.length_append]; simp, ?_⟩
    have m : mutO .append 3 [.int y] (σY p' n ds w (some d) (some (.list (iL (ends ds w))))) = .ok .none (σY p' n ds (w ++ [y]) (some d) (some (.list (iL (ends ds w))))) := by
      refine mutO_ok (r := .list (iL w)) (r' := .list (iL (w ++ [y]))) rfl ?_
      rw [e_appD (by rw [List.length_map]; omega)]
      unfold iL
      rw [List.map_append]
      rfl
    have hv2 : x :: (t ++ [y]) = w ++ [y] := by rw [← hv]; rfl
    rw [hv2]
    unfold forF
    simp only [evS_seq, evS_skip, evS_frz, evS_set, evS_exp, evS_ret, evS_ite, evS_par, evS_putS, evS_putA, evS_for, evT_op, evT_call, evT_var, evT_bl, evT_and, evT_or, evT_not, evE_var, evE_non, evE_bl, evE_int, evE_str, evE_op, evE_and, evE_or, evE_not, evE_ite, evE_tup, evE_lst, fin0, fin1, fin2, fin3, evE_dsp, evE_call, evE_mut, evE_lc, evE_lc2, evE_dc, evL_nil, evL_pk, evL_lnt, evL_var, evL_non, evL_bl, evL_int, evL_str, evL_op, evL_tup, evL_lst, evL_call, evL_lc, evL_lc2, evL_dc, evL_ite, evL_and, evL_or, evL_not, bind_ok, ofE_ok, ofO_some, next_nx, next_ret, rdS_0, rdS_s, Option.isSome_some, if_true, Bool.false_eq_true, if_false, lnts, callO, back, endF, readAll, Option.map_some, Option.bind_some, List.set_cons_zero, List.set_cons_succ, asgT, Dt.truthy, oF_add, oF_sub, oF_neg, oF_eq, oF_ne, oF_lt, oF_gt, oF_le, oF_ge, oF_in, oF_nin, oF_isN, oF_notN, oF_idx, oF_slice, oF_sliceL, oF_sliceH, oF_rev, oF_len, oF_int, oF_min2, oF_max2, oF_list, oF_tuple, oF_sorted, oF_all, oF_any, oF_isInt, oF_isBool, oF_isTuple, oF_isList, oF_isStr, oF_range1, oF_range2, oF_count, oF_index, oF_index3, opR_f, dB_s, fAdd_ii, fSub_ii, fNeg_i, fLen_L, fLen_T, fLen_D, fInt_i, dLt_ii, dGt_ii, dLe_ii, fIdx_L, fIdx_T, fRev_L, fRev_T, fList_L, fList_T, fTuple_L, fTuple_T, fMin2_ii, fMax2_ii, fSlH_T, fSlL_T, fSlH_L, fSlL_L, at_0, at_1, dEq_ii, dEq_bb, dEq_tw, dIn_tw, dIn_iT, dIn_iL, evE_chn, evE_meth, chnO_t, chnO_f, evL_meth, evL_mut, evL_chn, evS_unp, evS_fgt, isIntD, isBoolD, isTupleD, isListD, isSeqD, Bool.not_true, Bool.not_false, items1, itemsF, Dt.listOf, decide_true, decide_false, r, dEq_nil (okL_ints (ends ds w)), he, Option.map_some, isLs, e, m]
theorem f_some (k : Nat) {p : D} {c : Int} (n : Int) (ds : List (Int × Int)) (g : Gp c p) (hc : c + 100 ≤ 1000000) (h0 : 0 < n) (h9 : n ≤ 9) (hl : ds.length ≤ 20) : ∃ (x : Int) (t : List Int) (p' : D), Dt.run P0 12 (k + 3) 29 [p, .int n, tws ds] = .ret (tp (x :: t)) [p'] ∧ t.length ≤ 20 ∧ Gp (c + 50) p' := by
  obtain ⟨x, p1, e1, x0, x1, g1⟩ := f_draw (k + 1) (many := n) g (by omega) h0 (by omega)
  obtain ⟨m, p2, e2, m0, m1, g2⟩ := f_draw (k + 1) (many := n) g1 (by omega) h0 (by omega)
  obtain ⟨σ', q1, t, p', o4, o5, i, rfl, ri, i0, i1, l, g'⟩ := for_inv (f := forF ⟨Dt.run P0 12 (k + 2), 12, P0.sub⟩ (.v 4) bY) (items := rangeD 0 (1 + m)) (σ := σY p2 n ds [x] none none)
    (fun rest σ => ∃ (t : List Int) (p' : D) (o4 o5 : Option D) (i : Int), σ = σY p' n ds (x :: t) o4 o5 ∧ rest = rangeD i (1 + m) ∧ 0 ≤ i ∧ i ≤ 1 + m ∧ (t.length : Int) ≤ i ∧ Gp (c + 2 + i) p')
    ⟨[], p2, none, none, 0, rfl, rfl, by omega, by omega, by simp, g2.mono (by omega)⟩ (by
      rintro d rest σ _ ⟨t, p', o4, o5, i, rfl, ri, i0, i1, l, g'⟩
      obtain ⟨a1, rfl, a3⟩ := rangeD_inv ri
      obtain ⟨t2, p3, o52, g3, l2, e⟩ := s_way k n ds x t (.int i) o4 o5 g' (by omega) hl (by rw [List.length_cons]; omega)
      exact ⟨_, .inl e, t2, p3, _, _, i + 1, rfl, a3, by omega, by omega, by omega, by rw [show c + 2 + (i + 1) = c + 2 + i + 1 by omega]; exact g3⟩)
  have r1 : itR1 (.int (1 + m)) = some (rangeD 0 (1 + m)) := by
    have := it_r1 (1 + m).toNat (by omega)
    rw [show (((1 + m).toNat : Nat) : Int) = 1 + m by omega] at this
    exact this
  refine ⟨x, t, p', ?_, by omega, g'.mono (by omega)⟩
  have q1 : forLoop (forF ⟨Dt.run P0 12 (k + 2), 12, P0.sub⟩ (.v 4) bY) (rangeD 0 (1 + m)) [some p2, some (.int n), some (tws ds), some (.list [.int x]), none, none, none, none] = .nx (σY p' n ds (x :: t) o4 o5) := q1
  rw [run__law_some_way]
  unfold b__law_some_way
  simp only [evS_seq, evS_skip, evS_frz, evS_set, evS_exp, evS_ret, evS_ite, evS_par, evS_putS, evS_putA, evS_for, evT_op, evT_call, evT_var, evT_bl, evT_and, evT_or, evT_not, evE_var, evE_non, evE_bl, evE_int, evE_str, evE_op, evE_and, evE_or, evE_not, evE_ite, evE_tup, evE_lst, fin0, fin1, fin2, fin3, evE_dsp, evE_call, evE_mut, evE_lc, evE_lc2, evE_dc, evL_nil, evL_pk, evL_lnt, evL_var, evL_non, evL_bl, evL_int, evL_str, evL_op, evL_tup, evL_lst, evL_call, evL_lc, evL_lc2, evL_dc, evL_ite, evL_and, evL_or, evL_not, bind_ok, ofE_ok, ofO_some, next_nx, next_ret, rdS_0, rdS_s, Option.isSome_some, if_true, Bool.false_eq_true, if_false, lnts, callO, back, endF, readAll, Option.map_some, Option.bind_some, List.set_cons_zero, List.set_cons_succ, asgT, Dt.truthy, oF_add, oF_sub, oF_neg, oF_eq, oF_ne, oF_lt, oF_gt, oF_le, oF_ge, oF_in, oF_nin, oF_isN, oF_notN, oF_idx, oF_slice, oF_sliceL, oF_sliceH, oF_rev, oF_len, oF_int, oF_min2, oF_max2, oF_list, oF_tuple, oF_sorted, oF_all, oF_any, oF_isInt, oF_isBool, oF_isTuple, oF_isList, oF_isStr, oF_range1, oF_range2, oF_count, oF_index, oF_index3, opR_f, dB_s, fAdd_ii, fSub_ii, fNeg_i, fLen_L, fLen_T, fLen_D, fInt_i, dLt_ii, dGt_ii, dLe_ii, fIdx_L, fIdx_T, fRev_L, fRev_T, fList_L, fList_T, fTuple_L, fTuple_T, fMin2_ii, fMax2_ii, fSlH_T, fSlL_T, fSlH_L, fSlL_L, at_0, at_1, dEq_ii, dEq_bb, dEq_tw, dIn_tw, dIn_iT, dIn_iL, evE_chn, evE_meth, chnO_t, chnO_f, evL_meth, evL_mut, evL_chn, evS_unp, evS_fgt, isIntD, isBoolD, isTupleD, isListD, isSeqD, Bool.not_true, Bool.not_false, items1, itemsF, Dt.listOf, decide_true, decide_false, e1, e2, r1]
  rw [q1]
  simp only [evS_seq, evS_skip, evS_frz, evS_set, evS_exp, evS_ret, evS_ite, evS_par, evS_putS, evS_putA, evS_for, evT_op, evT_call, evT_var, evT_bl, evT_and, evT_or, evT_not, evE_var, evE_non, evE_bl, evE_int, evE_str, evE_op, evE_and, evE_or, evE_not, evE_ite, evE_tup, evE_lst, fin0, fin1, fin2, fin3, evE_dsp, evE_call, evE_mut, evE_lc, evE_lc2, evE_dc, evL_nil, evL_pk, evL_lnt, evL_var, evL_non, evL_bl, evL_int, evL_str, evL_op, evL_tup, evL_lst, evL_call, evL_lc, evL_lc2, evL_dc, evL_ite, evL_and, evL_or, evL_not, bind_ok, ofE_ok, ofO_some, next_nx, next_ret, rdS_0, rdS_s, Option.isSome_some, if_true, Bool.false_eq_true, if_false, lnts, callO, back, endF, readAll, Option.map_some, Option.bind_some, List.set_cons_zero, List.set_cons_succ, asgT, Dt.truthy, oF_add, oF_sub, oF_neg, oF_eq, oF_ne, oF_lt, oF_gt, oF_le, oF_ge, oF_in, oF_nin, oF_isN, oF_notN, oF_idx, oF_slice, oF_sliceL, oF_sliceH, oF_rev, oF_len, oF_int, oF_min2, oF_max2, oF_list, oF_tuple, oF_sorted, oF_all, oF_any, oF_isInt, oF_isBool, oF_isTuple, oF_isList, oF_isStr, oF_range1, oF_range2, oF_count, oF_index, oF_index3, opR_f, dB_s, fAdd_ii, fSub_ii, fNeg_i, fLen_L, fLen_T, fLen_D, fInt_i, dLt_ii, dGt_ii, dLe_ii, fIdx_L, fIdx_T, fRev_L, fRev_T, fList_L, fList_T, fTuple_L, fTuple_T, fMin2_ii, fMax2_ii, fSlH_T, fSlL_T, fSlH_L, fSlL_L, at_0, at_1, dEq_ii, dEq_bb, dEq_tw, dIn_tw, dIn_iT, dIn_iL, evE_chn, evE_meth, chnO_t, chnO_f, evL_meth, evL_mut, evL_chn, evS_unp, evS_fgt, isIntD, isBoolD, isTupleD, isListD, isSeqD, Bool.not_true, Bool.not_false, items1, itemsF, Dt.listOf, decide_true, decide_false]
end K14
end
section
set_option Elab.async false
set_option linter.all false
set_option maxRecDepth 100000
set_option maxHeartbeats 4000000
namespace K14
open PySem Dt
abbrev bTurn : S := (.seq (.set 10 (.call 29 (.cons (.lnt 1) (.cons (.var 4) (.cons (.var 5) .nil)))))   (.seq (.par (.cons (.v 11) (.cons (.v 12) .nil)) (.cons (.call 16 (.cons (.lnt 1) (.cons (.op .len false (.cons (.pk 10) .nil)) .nil))) (.cons (.call 16 (.cons (.lnt 1) (.cons (.var 4) .nil))) .nil)))   (.seq (.set 6 (.op .add true (.cons (.pk 6) (.cons (.lst .F (.cons (.var 10) (.cons (.op .add false (.cons (.op .add false (.cons (.op .sliceH false (.cons (.pk 10) (.cons (.pk 11) .nil))) (.cons (.tup (.cons (.var 12) .nil)) .nil))) (.cons (.op .sliceL false (.cons (.pk 10) (.cons (.op .add false (.cons (.pk 11) (.cons (.int 1) .nil))) .nil))) .nil))) (.cons (.op .add false (.cons (.op .sliceH false (.cons (.pk 10) (.cons (.pk 11) .nil))) (.cons (.op .sliceL false (.cons (.pk 10) (.cons (.op .add false (.cons (.pk 11) (.cons (.int 1) .nil))) .nil))) .nil))) (.cons (.op .rev false (.cons (.pk 10) .nil)) (.cons (.op .list false (.cons (.pk 10) .nil)) .nil)))))) .nil))))   (.seq (.set 6 (.op .add true (.cons (.pk 6) (.cons (.lst .F (.cons (.op .add false (.cons (.op .add false (.cons (.op .sliceH false (.cons (.pk 10) (.cons (.pk 11) .nil))) (.cons (.tup (.cons (.var 12) .nil)) .nil))) (.cons (.op .sliceL false (.cons (.pk 10) (.cons (.pk 11) .nil))) .nil))) (.cons (.op .add false (.cons (.op .sliceL false (.cons (.pk 10) (.cons (.pk 11) .nil))) (.cons (.op .sliceH false (.cons (.pk 10) (.cons (.pk 11) .nil))) .nil))) (.cons (.op .add false (.cons (.pk 10) (.cons (.op .sliceH false (.cons (.pk 10) (.cons (.int 1) .nil))) .nil))) (.cons (.op .add false (.cons (.op .sliceH false (.cons (.pk 10) (.cons (.op .neg false (.cons (.int 1) .nil)) .nil))) (.cons (.tup (.cons (.bl true) .nil)) .nil))) .nil))))) .nil))))   (.seq (.exp (.mut .append 6 (.cons (.op .add false (.cons (.pk 10) (.cons (.tup (.cons (.var 4) .nil)) .nil))) .nil)))   .skip)))))
abbrev bChk : S := (.seq (.ite (.not (.call 19 (.cons (.call 13 (.cons (.var 3) (.cons (.var 5) (.cons (.var 9) .nil)))) (.cons (.call 25 (.cons (.var 4) (.cons (.var 5) (.cons (.var 9) .nil)))) .nil))))   (.seq (.ret (.bl false))   .skip)   .skip)   (.seq (.ite (.not (.call 19 (.cons (.call 14 (.cons (.var 3) (.cons (.var 5) (.cons (.var 9) .nil)))) (.cons (.call 27 (.cons (.var 3) (.cons (.var 5) (.cons (.var 9) .nil)))) .nil))))   (.seq (.ret (.bl false))   .skip)   .skip)   .skip))
abbrev σL (ns p : D) (o2 : Option D) (W : D) (n : Int) (told : D) (vs : List D) (E : D) (o8 o9 o10 o11 o12 : Option D) : Sl := [some ns, some p, o2, some W, some (.int n), some told, some (.list vs), some E, o8, o9, o10, o11, o12]
theorem vok_T {xs : List D} (h : okL xs) (hl : xs.length ≤ 1000) : Vok (.tuple xs) := .inr ⟨xs, rfl, h, hl⟩
theorem addT {xs ys : List D} (h1 : xs.length ≤ 1000) (h2 : ys.length ≤ 1000) : fAdd (.tuple xs) (.tuple ys) = some (.tuple (xs ++ ys)) := fAdd_TT (by omega)
theorem okL_i1 {i : Int} : okL [.int i] := okL_ints [i]
theorem fin4 {α : Type} {a b : α} {x y z u : D} : (if [x, y, z, u].length ≤ sizeLine then a else b) = a := if_pos (few (by simp))
theorem s_law_turn (k : Nat) {p : D} {c : Int} (ns : D) (o2 : Option D) (W : D) (n : Int) (ds : List (Int × Int)) (vs : List D) (E d : D) (o8 o9 o10 o11 o12 : Option D) (g : Gp c p) (hc : c + 1000 ≤ 1000000) (h0 : 0 < n) (h9 : n ≤ 9) (hd : ds.length ≤ 20) (hv : ∀ v ∈ vs, Vok v) (hl : vs.length ≤ 1000) :
    ∃ (vs' : List D) (p' : D) (o10' o11' o12' : Option D), Gp (c + 52) p' ∧ (∀ v ∈ vs', Vok v) ∧ vs'.length = vs.length + 10 ∧
      forF ⟨Dt.run P0 12 (k + 3), 12, P0.sub⟩ (.v 8) bTurn d (σL ns p o2 W n (tws ds) vs E o8 o9 o10 o11 o12) = .nx (σL ns p' o2 W n (tws ds) vs' E (some d) o9 o10' o11' o12') := by
  obtain ⟨x, t, p1, e1, lt, g1⟩ := f_some k n ds g (by omega) h0 h9 hd
  generalize hw : x :: t = w at *
  have lw : w.length ≤ 21 := by rw [← hw, List.length_cons]; omega
  have lw0 : 0 < w.length := by rw [← hw]; simp
  have ll : (iL w).length = w.length := List.length_map ..
  obtain ⟨at_, p2, e2, a0, a1, g2⟩ := f_draw (k + 2) (many := (w.length : Nat)) g1 (by omega) (by omega) (by omega)
  obtain ⟨ot, p3, e3, b0, b1, g3⟩ := f_draw (k + 2) (many := n) g2 (by omega) h0 (by omega)
  have oc : ∀ lo hi, okL (cutD (iL w) lo hi) := fun lo hi => okL_sub (okL_ints w) fun d hd => mem_cut hd
  have lc : ∀ lo hi, (cutD (iL w) lo hi).length ≤ 21 := fun lo hi => Nat.le_trans len_cut (by rw [ll]; exact lw)
  have l1 := lc none (some at_)
  have l2 := lc (some (at_ + 1)) none
  have l3 := lc (some at_) none
  have l4 := lc none (some 1)
  have l5 := lc none (some (-1))
  have q1 : fAdd (.tuple (cutD (iL w) none (some at_))) (.tuple [.int ot]) = some (.tuple (cutD (iL w) none (some at_) ++ [.int ot])) := addT (by omega) (by simp)
  have q2 : fAdd (.tuple (cutD (iL w) none (some at_) ++ [.int ot])) (.tuple (cutD (iL w) (some (at_ + 1)) none)) = some (.tuple (cutD (iL w) none (some at_) ++ [.int ot] ++ cutD (iL w) (some (at_ + 1)) none)) := addT (by rw [List.length_append]; simp; omega) (by omega)
  have q3 : fAdd (.tuple (cutD (iL w) none (some at_))) (.tuple (cutD (iL w) (some (at_ + 1)) none)) = some (.tuple (cutD (iL w) none (some at_) ++ cutD (iL w) (some (at_ + 1)) none)) := addT (by omega) (by omega)
  have q4 : fAdd (.tuple (cutD (iL w) none (some at_) ++ [.int ot])) (.tuple (cutD (iL w) (some at_) none)) = some (.tuple (cutD (iL w) none (some at_) ++ [.int ot] ++ cutD (iL w) (some at_) none)) := addT (by rw [List.length_append]; simp; omega) (by omega)
  have q5 : fAdd (.tuple (cutD (iL w) (some at_) none)) (.tuple (cutD (iL w) none (some at_))) = some (.tuple (cutD (iL w) (some at_) none ++ cutD (iL w) none (some at_))) := addT (by omega) (by omega)
  have q6 : fAdd (.tuple (iL w)) (.tuple (cutD (iL w) none (some 1))) = some (.tuple (iL w ++ cutD (iL w) none (some 1))) := addT (by omega) (by omega)
  have q7 : fAdd (.tuple (cutD (iL w) none (some (-1)))) (.tuple [.bool true]) = some (.tuple (cutD (iL w) none (some (-1)) ++ [.bool true])) := addT (by omega) (by simp)
  have q8 : fAdd (.tuple (iL w)) (.tuple [.int n]) = some (.tuple (iL w ++ [.int n])) := addT (by omega) (by simp)
  let L1 : List D := [tp w, .tuple (cutD (iL w) none (some at_) ++ [.int ot] ++ cutD (iL w) (some (at_ + 1)) none), .tuple (cutD (iL w) none (some at_) ++ cutD (iL w) (some (at_ + 1)) none), .tuple (iL w).reverse, .list (iL w)]
  let L2 : List D := [.tuple (cutD (iL w) none (some at_) ++ [.int ot] ++ cutD (iL w) (some at_) none), .tuple (cutD (iL w) (some at_) none ++ cutD (iL w) none (some at_)), .tuple (iL w ++ cutD (iL w) none (some 1)), .tuple (cutD (iL w) none (some (-1)) ++ [.bool true])]
  have r1 : opR .add true [.list vs, .list L1] = some (.list (vs ++ L1)) := opR_t (fAdd_LL (by simp [L1]; omega)) rfl
  have r2 : opR .add true [.list (vs ++ L1), .list L2] = some (.list (vs ++ L1 ++ L2)) := opR_t (fAdd_LL (by simp [L1, L2]; omega)) rfl
  have m : mutO .append 6 [.tuple (iL w ++ [.int n])] (σL ns p3 o2 W n (tws ds) (vs ++ L1 ++ L2) E (some d) o9 (some (tp w)) (some (.int at_)) (some (.int ot))) = .ok .none (σL ns p3 o2 W n (tws ds) (vs ++ L1 ++ L2 ++ [.tuple (iL w ++ [.int n])]) E (some d) o9 (some (tp w)) (some (.int at_)) (some (.int ot))) :=
    mutO_ok (r := .list (vs ++ L1 ++ L2)) rfl (e_appD (by simp [L1, L2]; omega))
  refine ⟨vs ++ L1 ++ L2 ++ [.tuple (iL w ++ [.int n])], p3, some (tp w), some (.int at_), some (.int ot), g3.mono (by omega), fun v hv' => ?_, by simp [L1, L2], ?_⟩
  · have ow := okL_ints w
    rcases List.mem_append.mp hv' with hv' | hv'
    · rcases List.mem_append.mp hv' with hv' | hv'
      · rcases List.mem_append.mp hv' with hv' | hv'
        · exact hv v hv'
        · simp only [L1, List.mem_cons, List.not_mem_nil, or_false] at hv'
          rcases hv' with rfl | rfl | rfl | rfl | rfl
          · exact vok_T ow (by omega)
          · exact vok_T (okL_app (okL_app (oc _ _) okL_i1) (oc _ _)) (by simp only [List.length_append, List.length_singleton]; omega)
          · exact vok_T (okL_app (oc _ _) (oc _ _)) (by simp only [List.length_append]; omega)
          · exact vok_T (okL_sub ow fun d hd => List.mem_reverse.mp hd) (by rw [List.length_reverse]; omega)
          · exact .inl rfl
      · simp only [L2, List.mem_cons, List.not_mem_nil, or_false] at hv'
        rcases hv' with rfl | rfl | rfl | rfl
        · exact vok_T (okL_app (okL_app (oc _ _) okL_i1) (oc _ _)) (by simp only [List.length_append, List.length_singleton]; omega)
        · exact vok_T (okL_app (oc _ _) (oc _ _)) (by simp only [List.length_append]; omega)
        · exact vok_T (okL_app ow (oc _ _)) (by simp only [List.length_append]; omega)
        · exact vok_T (okL_app (oc _ _) (okL_cons.mpr ⟨okL_bool, okL_nil⟩)) (by simp only [List.length_append, List.length_singleton]; omega)
    · cases List.mem_singleton.mp hv'
      exact vok_T (okL_app ow okL_i1) (by simp only [List.length_append, List.length_singleton]; omega)
  · have e2' : Dt.run P0 12 (k + 3) 16 [p1, .int ((iL w).length : Nat)] = .ret (.int at_) [p2] := by rw [ll]; exact e2
    have e3' : Dt.run P0 12 (k + 3) 16 [p2, .int n] = .ret (.int ot) [p3] := e3
    unfold forF
    simp only [evS_seq, evS_skip, evS_frz, evS_set, evS_exp, evS_ret, evS_ite, evS_par, evS_putS, evS_putA, evS_for, evT_op, evT_call, evT_var, evT_bl, evT_and, evT_or, evT_not, evE_var, evE_non, evE_bl, evE_int, evE_str, evE_op, evE_and, evE_or, evE_not, evE_ite, evE_tup, evE_lst, fin0, fin1, fin2, fin3, evE_dsp, evE_call, evE_mut, evE_lc, evE_lc2, evE_dc, evL_nil, evL_pk, evL_lnt, evL_var, evL_non, evL_bl, evL_int, evL_str, evL_op, evL_tup, evL_lst, evL_call, evL_lc, evL_lc2, evL_dc, evL_ite, evL_and, evL_or, evL_not, bind_ok, ofE_ok, ofO_some, next_nx, next_ret, rdS_0, rdS_s, Option.isSome_some, if_true, Bool.false_eq_true, if_false, lnts, callO, back, endF, readAll, Option.map_some, Option.bind_some, List.set_cons_zero, List.set_cons_succ, asgT, Dt.truthy, oF_add, oF_sub, oF_neg, oF_eq, oF_ne, oF_lt, oF_gt, oF_le, oF_ge, oF_in, oF_nin, oF_isN, oF_notN, oF_idx, oF_slice, oF_sliceL, oF_sliceH, oF_rev, oF_len, oF_int, oF_min2, oF_max2, oF_list, oF_tuple, oF_sorted, oF_all, oF_any, oF_isInt, oF_isBool, oF_isTuple, oF_isList, oF_isStr, oF_range1, oF_range2, oF_count, oF_index, oF_index3, opR_f, dB_s, fAdd_ii, fSub_ii, fNeg_i, fLen_L, fLen_T, fLen_D, fInt_i, dLt_ii, dGt_ii, dLe_ii, fIdx_L, fIdx_T, fRev_L, fRev_T, fList_L, fList_T, fTuple_L, fTuple_T, fMin2_ii, fMax2_ii, fSlH_T, fSlL_T, fSlH_L, fSlL_L, at_0, at_1, dEq_ii, dEq_bb, dEq_tw, dIn_tw, dIn_iT, dIn_iL, evE_chn, evE_meth, chnO_t, chnO_f, evL_meth, evL_mut, evL_chn, evS_unp, evS_fgt, isIntD, isBoolD, isTupleD, isListD, isSeqD, Bool.not_true, Bool.not_false, items1, itemsF, Dt.listOf, decide_true, decide_false, e1, e2', e3', q1, q2, q3, q4, q5, q6, q7, q8, fin5, fin4]
    have r1 : opR .add true [.list vs, .list [tp w, .tuple (cutD (iL w) none (some at_) ++ [.int ot] ++ cutD (iL w) (some (at_ + 1)) none), .tuple (cutD (iL w) none (some at_) ++ cutD (iL w) (some (at_ + 1)) none), .tuple (iL w).reverse, .list (iL w)]] = some (.list (vs ++ L1)) := r1
    have r2 : opR .add true [.list (vs ++ L1), .list [.tuple (cutD (iL w) none (some at_) ++ [.int ot] ++ cutD (iL w) (some at_) none), .tuple (cutD (iL w) (some at_) none ++ cutD (iL w) none (some at_)), .tuple (iL w ++ cutD (iL w) none (some 1)), .tuple (cutD (iL w) none (some (-1)) ++ [.bool true])]] = some (.list (vs ++ L1 ++ L2)) := r2
    simp only [evS_seq, evS_skip, evS_frz, evS_set, evS_exp, evS_ret, evS_ite, evS_par, evS_putS, evS_putA, evS_for, evT_op, evT_call, evT_var, evT_bl, evT_and, evT_or, evT_not, evE_var, evE_non, evE_bl, evE_int, evE_str, evE_op, evE_and, evE_or, evE_not, evE_ite, evE_tup, evE_lst, fin0, fin1, fin2, fin3, evE_dsp, evE_call, evE_mut, evE_lc, evE_lc2, evE_dc, evL_nil, evL_pk, evL_lnt, evL_var, evL_non, evL_bl, evL_int, evL_str, evL_op, evL_tup, evL_lst, evL_call, evL_lc, evL_lc2, evL_dc, evL_ite, evL_and, evL_or, evL_not, bind_ok, ofE_ok, ofO_some, next_nx, next_ret, rdS_0, rdS_s, Option.isSome_some, if_true, Bool.false_eq_true, if_false, lnts, callO, back, endF, readAll, Option.map_some, Option.bind_some, List.set_cons_zero, List.set_cons_succ, asgT, Dt.truthy, oF_add, oF_sub, oF_neg, oF_eq, oF_ne, oF_lt, oF_gt, oF_le, oF_ge, oF_in, oF_nin, oF_isN, oF_notN, oF_idx, oF_slice, oF_sliceL, oF_sliceH, oF_rev, oF_len, oF_int, oF_min2, oF_max2, oF_list, oF_tuple, oF_sorted, oF_all, oF_any, oF_isInt, oF_isBool, oF_isTuple, oF_isList, oF_isStr, oF_range1, oF_range2, oF_count, oF_index, oF_index3, opR_f, dB_s, fAdd_ii, fSub_ii, fNeg_i, fLen_L, fLen_T, fLen_D, fInt_i, dLt_ii, dGt_ii, dLe_ii, fIdx_L, fIdx_T, fRev_L, fRev_T, fList_L, fList_T, fTuple_L, fTuple_T, fMin2_ii, fMax2_ii, fSlH_T, fSlL_T, fSlH_L, fSlL_L, at_0, at_1, dEq_ii, dEq_bb, dEq_tw, dIn_tw, dIn_iT, dIn_iL, evE_chn, evE_meth, chnO_t, chnO_f, evL_meth, evL_mut, evL_chn, evS_unp, evS_fgt, isIntD, isBoolD, isTupleD, isListD, isSeqD, Bool.not_true, Bool.not_false, items1, itemsF, Dt.listOf, decide_true, decide_false, r1]
    simp only [evS_seq, evS_skip, evS_frz, evS_set, evS_exp, evS_ret, evS_ite, evS_par, evS_putS, evS_putA, evS_for, evT_op, evT_call, evT_var, evT_bl, evT_and, evT_or, evT_not, evE_var, evE_non, evE_bl, evE_int, evE_str, evE_op, evE_and, evE_or, evE_not, evE_ite, evE_tup, evE_lst, fin0, fin1, fin2, fin3, evE_dsp, evE_call, evE_mut, evE_lc, evE_lc2, evE_dc, evL_nil, evL_pk, evL_lnt, evL_var, evL_non, evL_bl, evL_int, evL_str, evL_op, evL_tup, evL_lst, evL_call, evL_lc, evL_lc2, evL_dc, evL_ite, evL_and, evL_or, evL_not, bind_ok, ofE_ok, ofO_some, next_nx, next_ret, rdS_0, rdS_s, Option.isSome_some, if_true, Bool.false_eq_true, if_false, lnts, callO, back, endF, readAll, Option.map_some, Option.bind_some, List.set_cons_zero, List.set_cons_succ, asgT, Dt.truthy, oF_add, oF_sub, oF_neg, oF_eq, oF_ne, oF_lt, oF_gt, oF_le, oF_ge, oF_in, oF_nin, oF_isN, oF_notN, oF_idx, oF_slice, oF_sliceL, oF_sliceH, oF_rev, oF_len, oF_int, oF_min2, oF_max2, oF_list, oF_tuple, oF_sorted, oF_all, oF_any, oF_isInt, oF_isBool, oF_isTuple, oF_isList, oF_isStr, oF_range1, oF_range2, oF_count, oF_index, oF_index3, opR_f, dB_s, fAdd_ii, fSub_ii, fNeg_i, fLen_L, fLen_T, fLen_D, fInt_i, dLt_ii, dGt_ii, dLe_ii, fIdx_L, fIdx_T, fRev_L, fRev_T, fList_L, fList_T, fTuple_L, fTuple_T, fMin2_ii, fMax2_ii, fSlH_T, fSlL_T, fSlH_L, fSlL_L, at_0, at_1, dEq_ii, dEq_bb, dEq_tw, dIn_tw, dIn_iT, dIn_iL, evE_chn, evE_meth, chnO_t, chnO_f, evL_meth, evL_mut, evL_chn, evS_unp, evS_fgt, isIntD, isBoolD, isTupleD, isListD, isSeqD, Bool.not_true, Bool.not_false, items1, itemsF, Dt.listOf, decide_true, decide_false, q1, q4, q5, q6, q7, q8, fin4, r2]
    simp only [evS_seq, evS_skip, evS_frz, evS_set, evS_exp, evS_ret, evS_ite, evS_par, evS_putS, evS_putA, evS_for, evT_op, evT_call, evT_var, evT_bl, evT_and, evT_or, evT_not, evE_var, evE_non, evE_bl, evE_int, evE_str, evE_op, evE_and, evE_or, evE_not, evE_ite, evE_tup, evE_lst, fin0, fin1, fin2, fin3, evE_dsp, evE_call, evE_mut, evE_lc, evE_lc2, evE_dc, evL_nil, evL_pk, evL_lnt, evL_var, evL_non, evL_bl, evL_int, evL_str, evL_op, evL_tup, evL_lst, evL_call, evL_lc, evL_lc2, evL_dc, evL_ite, evL_and, evL_or, evL_not, bind_ok, ofE_ok, ofO_some, next_nx, next_ret, rdS_0, rdS_s, Option.isSome_some, if_true, Bool.false_eq_true, if_false, lnts, callO, back, endF, readAll, Option.map_some, Option.bind_some, List.set_cons_zero, List.set_cons_succ, asgT, Dt.truthy, oF_add, oF_sub, oF_neg, oF_eq, oF_ne, oF_lt, oF_gt, oF_le, oF_ge, oF_in, oF_nin, oF_isN, oF_notN, oF_idx, oF_slice, oF_sliceL, oF_sliceH, oF_rev, oF_len, oF_int, oF_min2, oF_max2, oF_list, oF_tuple, oF_sorted, oF_all, oF_any, oF_isInt, oF_isBool, oF_isTuple, oF_isList, oF_isStr, oF_range1, oF_range2, oF_count, oF_index, oF_index3, opR_f, dB_s, fAdd_ii, fSub_ii, fNeg_i, fLen_L, fLen_T, fLen_D, fInt_i, dLt_ii, dGt_ii, dLe_ii, fIdx_L, fIdx_T, fRev_L, fRev_T, fList_L, fList_T, fTuple_L, fTuple_T, fMin2_ii, fMax2_ii, fSlH_T, fSlL_T, fSlH_L, fSlL_L, at_0, at_1, dEq_ii, dEq_bb, dEq_tw, dIn_tw, dIn_iT, dIn_iL, evE_chn, evE_meth, chnO_t, chnO_f, evL_meth, evL_mut, evL_chn, evS_unp, evS_fgt, isIntD, isBoolD, isTupleD, isListD, isSeqD, Bool.not_true, Bool.not_false, items1, itemsF, Dt.listOf, decide_true, decide_false, q8, isLs, m]
end K14
end
section
set_option Elab.async false
set_option linter.all false
set_option maxRecDepth 100000
set_option maxHeartbeats 4000000
namespace K14
open PySem Dt
theorem loop_st {α : Type} {own : List Nat} {tg : Tg} {c : Sl → Out Bool} {e : α → Sl → Out α} (K : List D → α → Sl → Prop) : ∀ {items : List D} {acc : α} {σ : Sl}, K items acc (wipeD σ own) →
    (∀ d rest acc w, K (d :: rest) acc w → ∃ σ1 b σ2, asgT tg d w = some σ1 ∧ c σ1 = .ok b σ2 ∧ (b = false → K rest acc (wipeD σ2 own)) ∧ (b = true → ∃ acc' σ3, e acc σ2 = .ok acc' σ3 ∧ K rest acc' (wipeD σ3 own))) →
    ∃ accF σ2, loopG (turnG own tg c e) items acc σ = .ok accF σ2 ∧ K [] accF (wipeD σ2 own)
  | [], acc, σ, hk, _ => ⟨acc, σ, by rw [loopG], hk⟩
  | d :: ds, acc, σ, hk, step => by
    obtain ⟨σ1, b, σ2, a1, a2, a3, a4⟩ := step d ds acc _ hk
    cases b with
    | false =>
      have t : turnG own tg c e d acc σ = .ok acc σ2 := by
        unfold turnG
        rw [a1]
        simp only [a2, noX, Out.bind, Bool.false_eq_true, if_false]
      obtain ⟨accF, σF, e1, e3⟩ := loop_st K (items := ds) (a3 rfl) step
      refine ⟨accF, σF, ?_, e3⟩
      rw [loopG, t]
      exact e1
    | true =>
      obtain ⟨acc', σ3, e0, k3⟩ := a4 rfl
      have t : turnG own tg c e d acc σ = .ok acc' σ3 := by
        unfold turnG
        rw [a1]
        simp only [a2, noX, Out.bind, if_true, e0]
      obtain ⟨accF, σF, e1, e3⟩ := loop_st K (items := ds) k3 step
      refine ⟨accF, σF, ?_, e3⟩
      rw [loopG, t]
      exact e1
/-- a comprehension whose turns change what is lent -/
theorem run_st {α : Type} {own : List Nat} {tg : Tg} {c : Sl → Out Bool} {e : α → Sl → Out α} {dat : α → D} {items : List D} {acc : α} {σ : Sl} (K : List D → α → Sl → Prop) (hk : K items acc (wipeD σ own))
    (step : ∀ d rest acc w, K (d :: rest) acc w → ∃ σ1 b σ2, asgT tg d w = some σ1 ∧ c σ1 = .ok b σ2 ∧ (b = false → K rest acc (wipeD σ2 own)) ∧ (b = true → ∃ acc' σ3, e acc σ2 = .ok acc' σ3 ∧ K rest acc' (wipeD σ3 own))) :
    ∃ accF w, runG own dat (turnG own tg c e) acc items σ = .ok (dat accF) w ∧ K [] accF w := by
  obtain ⟨accF, σ2, e1, e3⟩ := loop_st K hk step
  refine ⟨accF, wipeD σ2 own, ?_, e3⟩
  unfold runG
  rw [e1]
  rfl
def pN (ds : List (Int × Int)) : D → Bool
  | .tuple (.int x :: r) => decide ((lastI (x :: r.map toI), x) ∈ ds) || decide ((x, lastI (x :: r.map toI)) ∈ ds)
  | _ => false
theorem toI_iL (w : List Int) : (iL w).map toI = w := by
  unfold iL
  rw [List.map_map]
  exact (List.map_congr_left fun _ _ => rfl).trans (List.map_id _)
theorem pN_tp (ds : List (Int × Int)) (x : Int) (t : List Int) : pN ds (tp (x :: t)) = (decide ((lastI (x :: t), x) ∈ ds) || decide ((x, lastI (x :: t)) ∈ ds)) := by
  show (decide ((lastI (x :: (iL t).map toI), x) ∈ ds) || decide ((x, lastI (x :: (iL t).map toI)) ∈ ds)) = _
  rw [toI_iL]
abbrev σM (ns p : D) (o2 : Option D) (W : D) (n : Int) (told : D) (vs : List D) (o7 o8 o9 o10 o11 o12 : Option D) : Sl := [some ns, some p, o2, some W, some (.int n), some told, some (.list vs), o7, o8, o9, o10, o11, o12]
/-- the ways that are picked from -/
theorem s_ends (V : Ev) (ns p : D) (o2 : Option D) (W : D) (n : Int) (ds : List (Int × Int)) (vs : List D) (o7 o8 o9 o10 o11 o12 : Option D) (Ws : List (List Int)) (hW : ∀ w ∈ Ws, 2 ≤ w.length ∧ w.length ≤ 10) (hl : Ws.length ≤ 400) :
    ∃ Es : List (List Int), runG [10] .list (turnG [10] (.v 10) (evT V (.or (.op .isIn false (.cons (.tup (.cons (.op .idx false (.cons (.pk 10) (.cons (.op .neg false (.cons (.int 1) .nil)) .nil))) (.cons (.op .idx false (.cons (.pk 10) (.cons (.int 0) .nil))) .nil))) (.cons (.pk 5) .nil))) (.op .isIn false (.cons (.tup (.cons (.op .idx false (.cons (.pk 10) (.cons (.int 0) .nil))) (.cons (.op .idx false (.cons (.pk 10) (.cons (.op .neg false (.cons (.int 1) .nil)) .nil))) .nil))) (.cons (.pk 5) .nil))))) (app1 (evE V (.var 10)))) [] (Ws.map tp) (σM ns p o2 W n (tws ds) vs o7 o8 o9 o10 o11 o12) = .ok (.list (Es.map tp)) (σM ns p o2 W n (tws ds) vs o7 o8 o9 none o11 o12) ∧ (∀ w ∈ Es, 2 ≤ w.length ∧ w.length ≤ 10) ∧ Es.length ≤ 400 := by
  refine ⟨Ws.filter (fun w => pN ds (tp w)), ?_, fun w hw => hW w (List.mem_filter.mp hw).1, Nat.le_trans (List.length_filter_le ..) hl⟩
  have e : (Ws.filter (fun w => pN ds (tp w))).map tp = ((Ws.map tp).filter (pN ds)).map id := by
    rw [List.map_id, List.filter_map]
    rfl
  rw [e]
  refine run_pure (pN ds) id (w0 := σM ns p o2 W n (tws ds) vs o7 o8 o9 none o11 o12) rfl (by rw [sl24, List.length_map]; omega) fun d hd => ?_
  obtain ⟨w, hw, rfl⟩ := List.mem_map.mp hd
  have hw2 := (hW w hw).1
  cases w with
  | nil => simp at hw2
  | cons x t =>
    have a0 : atD (iL (x :: t)) 0 = some (.int x) := at_0
    have a1 := last_iL x t
    refine ⟨σM ns p o2 W n (tws ds) vs o7 o8 o9 (some (tp (x :: t))) o11 o12, rfl, rfl, ?_, fun _ => by simp only [evS_seq, evS_skip, evS_frz, evS_set, evS_exp, evS_ret, evS_ite, evS_par, evS_putS, evS_putA, evS_for, evT_op, evT_call, evT_var, evT_bl, evT_and, evT_or, evT_not, evE_var, evE_non, evE_bl, evE_int, evE_str, evE_op, evE_and, evE_or, evE_not, evE_ite, evE_tup, evE_lst, fin0, fin1, fin2, fin3, evE_dsp, evE_call, evE_mut, evE_lc, evE_lc2, evE_dc, evL_nil, evL_pk, evL_lnt, evL_var, evL_non, evL_bl, evL_int, evL_str, evL_op, evL_tup, evL_lst, evL_call, evL_lc, evL_lc2, evL_dc, evL_ite, evL_and, evL_or, evL_not, bind_ok, ofE_ok, ofO_some, next_nx, next_ret, rdS_0, rdS_s, Option.isSome_some, if_true, Bool.false_eq_true, if_false, lnts, callO, back, endF, readAll, Option.map_some, Option.bind_some, List.set_cons_zero, List.set_cons_succ, asgT, Dt.truthy, oF_add, oF_sub, oF_neg, oF_eq, oF_ne, oF_lt, oF_gt, oF_le, oF_ge, oF_in, oF_nin, oF_isN, oF_notN, oF_idx, oF_slice, oF_sliceL, oF_sliceH, oF_rev, oF_len, oF_int, oF_min2, oF_max2, oF_list, oF_tuple, oF_sorted, oF_all, oF_any, oF_isInt, oF_isBool, oF_isTuple, oF_isList, oF_isStr, oF_range1, oF_range2, oF_count, oF_index, oF_index3, opR_f, dB_s, fAdd_ii, fSub_ii, fNeg_i, fLen_L, fLen_T, fLen_D, fInt_i, dLt_ii, dGt_ii, dLe_ii, fIdx_L, fIdx_T, fRev_L, fRev_T, fList_L, fList_T, fTuple_L, fTuple_T, fMin2_ii, fMax2_ii, fSlH_T, fSlL_T, fSlH_L, fSlL_L, at_0, at_1, dEq_ii, dEq_bb, dEq_tw, dIn_tw, dIn_iT, dIn_iL, evE_chn, evE_meth, chnO_t, chnO_f, evL_meth, evL_mut, evL_chn, evS_unp, evS_fgt, isIntD, isBoolD, isTupleD, isListD, isSeqD, Bool.not_true, Bool.not_false, items1, itemsF, Dt.listOf, decide_true, decide_false, id]⟩
    rw [pN_tp]
    cases h1 : decide ((lastI (x :: t), x) ∈ ds) with
    | true => simp only [evS_seq, evS_skip, evS_frz, evS_set, evS_exp, evS_ret, evS_ite, evS_par, evS_putS, evS_putA, evS_for, evT_op, evT_call, evT_var, evT_bl, evT_and, evT_or, evT_not, evE_var, evE_non, evE_bl, evE_int, evE_str, evE_op, evE_and, evE_or, evE_not, evE_ite, evE_tup, evE_lst, fin0, fin1, fin2, fin3, evE_dsp, evE_call, evE_mut, evE_lc, evE_lc2, evE_dc, evL_nil, evL_pk, evL_lnt, evL_var, evL_non, evL_bl, evL_int, evL_str, evL_op, evL_tup, evL_lst, evL_call, evL_lc, evL_lc2, evL_dc, evL_ite, evL_and, evL_or, evL_not, bind_ok, ofE_ok, ofO_some, next_nx, next_ret, rdS_0, rdS_s, Option.isSome_some, if_true, Bool.false_eq_true, if_false, lnts, callO, back, endF, readAll, Option.map_some, Option.bind_some, List.set_cons_zero, List.set_cons_succ, asgT, Dt.truthy, oF_add, oF_sub, oF_neg, oF_eq, oF_ne, oF_lt, oF_gt, oF_le, oF_ge, oF_in, oF_nin, oF_isN, oF_notN, oF_idx, oF_slice, oF_sliceL, oF_sliceH, oF_rev, oF_len, oF_int, oF_min2, oF_max2, oF_list, oF_tuple, oF_sorted, oF_all, oF_any, oF_isInt, oF_isBool, oF_isTuple, oF_isList, oF_isStr, oF_range1, oF_range2, oF_count, oF_index, oF_index3, opR_f, dB_s, fAdd_ii, fSub_ii, fNeg_i, fLen_L, fLen_T, fLen_D, fInt_i, dLt_ii, dGt_ii, dLe_ii, fIdx_L, fIdx_T, fRev_L, fRev_T, fList_L, fList_T, fTuple_L, fTuple_T, fMin2_ii, fMax2_ii, fSlH_T, fSlL_T, fSlH_L, fSlL_L, at_0, at_1, dEq_ii, dEq_bb, dEq_tw, dIn_tw, dIn_iT, dIn_iL, evE_chn, evE_meth, chnO_t, chnO_f, evL_meth, evL_mut, evL_chn, evS_unp, evS_fgt, isIntD, isBoolD, isTupleD, isListD, isSeqD, Bool.not_true, Bool.not_false, items1, itemsF, Dt.listOf, decide_true, decide_false, a0, a1, h1, Bool.true_or]
    | false => simp only [evS_seq, evS_skip, evS_frz, evS_set, evS_exp, evS_ret, evS_ite, evS_par, evS_putS, evS_putA, evS_for, evT_op, evT_call, evT_var, evT_bl, evT_and, evT_or, evT_not, evE_var, evE_non, evE_bl, evE_int, evE_str, evE_op, evE_and, evE_or, evE_not, evE_ite, evE_tup, evE_lst, fin0, fin1, fin2, fin3, evE_dsp, evE_call, evE_mut, evE_lc, evE_lc2, evE_dc, evL_nil, evL_pk, evL_lnt, evL_var, evL_non, evL_bl, evL_int, evL_str, evL_op, evL_tup, evL_lst, evL_call, evL_lc, evL_lc2, evL_dc, evL_ite, evL_and, evL_or, evL_not, bind_ok, ofE_ok, ofO_some, next_nx, next_ret, rdS_0, rdS_s, Option.isSome_some, if_true, Bool.false_eq_true, if_false, lnts, callO, back, endF, readAll, Option.map_some, Option.bind_some, List.set_cons_zero, List.set_cons_succ, asgT, Dt.truthy, oF_add, oF_sub, oF_neg, oF_eq, oF_ne, oF_lt, oF_gt, oF_le, oF_ge, oF_in, oF_nin, oF_isN, oF_notN, oF_idx, oF_slice, oF_sliceL, oF_sliceH, oF_rev, oF_len, oF_int, oF_min2, oF_max2, oF_list, oF_tuple, oF_sorted, oF_all, oF_any, oF_isInt, oF_isBool, oF_isTuple, oF_isList, oF_isStr, oF_range1, oF_range2, oF_count, oF_index, oF_index3, opR_f, dB_s, fAdd_ii, fSub_ii, fNeg_i, fLen_L, fLen_T, fLen_D, fInt_i, dLt_ii, dGt_ii, dLe_ii, fIdx_L, fIdx_T, fRev_L, fRev_T, fList_L, fList_T, fTuple_L, fTuple_T, fMin2_ii, fMax2_ii, fSlH_T, fSlL_T, fSlH_L, fSlL_L, at_0, at_1, dEq_ii, dEq_bb, dEq_tw, dIn_tw, dIn_iT, dIn_iL, evE_chn, evE_meth, chnO_t, chnO_f, evL_meth, evL_mut, evL_chn, evS_unp, evS_fgt, isIntD, isBoolD, isTupleD, isListD, isSeqD, Bool.not_true, Bool.not_false, items1, itemsF, Dt.listOf, decide_true, decide_false, a0, a1, h1, Bool.false_or]
theorem vok_tp {w : List Int} (h : w.length ≤ 1000) : Vok (tp w) := vok_T (okL_ints w) (by rw [List.length_map]; exact h)
theorem s_picks (k : Nat) {p : D} {c : Int} (ns : D) (o2 : Option D) (W : D) (n : Int) (told : D) (vs : List D) (Es : List (List Int)) (o8 o9 o10 o11 o12 : Option D) (g : Gp c p) (hc : c + 100 ≤ 1000000) (hE : ∀ w ∈ Es, 2 ≤ w.length ∧ w.length ≤ 10) (hl : Es.length ≤ 400) :
    ∃ (ps : List D) (p' : D), runG [8] .list (turnG [8] (.v 8) (evT ⟨Dt.run P0 12 (k + 2), 12, P0.sub⟩ (.op .ne false (.cons (.pk 7) (.cons (.lst .F .nil) .nil)))) (app1 (evE ⟨Dt.run P0 12 (k + 2), 12, P0.sub⟩ (.call 17 (.cons (.lnt 1) (.cons (.var 7) .nil)))))) [] (rangeD 0 6) (σL ns p o2 W n told vs (.list (Es.map tp)) o8 o9 o10 o11 o12) = .ok (.list ps) (σL ns p' o2 W n told vs (.list (Es.map tp)) none o9 o10 o11 o12) ∧ Gp (c + 6) p' ∧ (∀ v ∈ ps, Vok v) ∧ ps.length ≤ 6 := by
  obtain ⟨ps, w, e, p', rfl, i, ri, i0, i1, g', hv, hlen⟩ := run_st (dat := .list) (own := [8]) (tg := (.v 8)) (c := evT ⟨Dt.run P0 12 (k + 2), 12, P0.sub⟩ (.op .ne false (.cons (.pk 7) (.cons (.lst .F .nil) .nil)))) (e := app1 (evE ⟨Dt.run P0 12 (k + 2), 12, P0.sub⟩ (.call 17 (.cons (.lnt 1) (.cons (.var 7) .nil))))) (items := rangeD 0 6) (acc := []) (σ := σL ns p o2 W n told vs (.list (Es.map tp)) o8 o9 o10 o11 o12)
    (fun rest acc w => ∃ p' : D, w = σL ns p' o2 W n told vs (.list (Es.map tp)) none o9 o10 o11 o12 ∧ ∃ i : Int, rest = rangeD i 6 ∧ 0 ≤ i ∧ i ≤ 6 ∧ Gp (c + i) p' ∧ (∀ v ∈ acc, Vok v) ∧ (acc.length : Int) ≤ i)
    ⟨p, rfl, 0, rfl, by decide, by decide, by simpa using g, fun _ h => (nomatch h), by simp⟩ (by
      rintro d rest acc w ⟨p', rfl, i, ri, i0, i1, g', hv, hlen⟩
      obtain ⟨a1, rfl, a3⟩ := rangeD_inv ri
      refine ⟨σL ns p' o2 W n told vs (.list (Es.map tp)) (some (.int i)) o9 o10 o11 o12, !(Es.map tp).isEmpty, σL ns p' o2 W n told vs (.list (Es.map tp)) (some (.int i)) o9 o10 o11 o12, rfl, by simp only [evS_seq, evS_skip, evS_frz, evS_set, evS_exp, evS_ret, evS_ite, evS_par, evS_putS, evS_putA, evS_for, evT_op, evT_call, evT_var, evT_bl, evT_and, evT_or, evT_not, evE_var, evE_non, evE_bl, evE_int, evE_str, evE_op, evE_and, evE_or, evE_not, evE_ite, evE_tup, evE_lst, fin0, fin1, fin2, fin3, evE_dsp, evE_call, evE_mut, evE_lc, evE_lc2, evE_dc, evL_nil, evL_pk, evL_lnt, evL_var, evL_non, evL_bl, evL_int, evL_str, evL_op, evL_tup, evL_lst, evL_call, evL_lc, evL_lc2, evL_dc, evL_ite, evL_and, evL_or, evL_not, bind_ok, ofE_ok, ofO_some, next_nx, next_ret, rdS_0, rdS_s, Option.isSome_some, if_true, Bool.false_eq_true, if_false, lnts, callO, back, endF, readAll, Option.map_some, Option.bind_some, List.set_cons_zero, List.set_cons_succ, asgT, Dt.truthy, oF_add, oF_sub, oF_neg, oF_eq, oF_ne, oF_lt, oF_gt, oF_le, oF_ge, oF_in, oF_nin, oF_isN, oF_notN, oF_idx, oF_slice, oF_sliceL, oF_sliceH, oF_rev, oF_len, oF_int, oF_min2, oF_max2, oF_list, oF_tuple, oF_sorted, oF_all, oF_any, oF_isInt, oF_isBool, oF_isTuple, oF_isList, oF_isStr, oF_range1, oF_range2, oF_count, oF_index, oF_index3, opR_f, dB_s, fAdd_ii, fSub_ii, fNeg_i, fLen_L, fLen_T, fLen_D, fInt_i, dLt_ii, dGt_ii, dLe_ii, fIdx_L, fIdx_T, fRev_L, fRev_T, fList_L, fList_T, fTuple_L, fTuple_T, fMin2_ii, fMax2_ii, fSlH_T, fSlL_T, fSlH_L, fSlL_L, at_0, at_1, dEq_ii, dEq_bb, dEq_tw, dIn_tw, dIn_iT, dIn_iL, evE_chn, evE_meth, chnO_t, chnO_f, evL_meth, evL_mut, evL_chn, evS_unp, evS_fgt, isIntD, isBoolD, isTupleD, isListD, isSeqD, Bool.not_true, Bool.not_false, items1, itemsF, Dt.listOf, decide_true, decide_false, dEq_nil (okL_tps Es), Option.map_some], fun _ => ⟨p', rfl, i + 1, a3, by omega, by omega, g'.mono (by omega), hv, by omega⟩, fun hb => ?_⟩
      have hpos : 0 < (Es.map tp).length := by
        cases h : Es.map tp with
        | nil => rw [h] at hb; cases hb
        | cons _ _ => simp
      obtain ⟨j, hj, p2, e, g2⟩ := f_pick k (Es.map tp) g' (by omega) hpos (by rw [List.length_map]; omega)
      rw [List.getElem_map] at e
      have hm : Es[j]'(by simpa using hj) ∈ Es := List.getElem_mem _
      generalize Es[j]'(by simpa using hj) = w at e hm
      refine ⟨acc ++ [tp w], σL ns p2 o2 W n told vs (.list (Es.map tp)) (some (.int i)) o9 o10 o11 o12, ?_, p2, rfl, i + 1, a3, by omega, by omega, by rw [show c + (i + 1) = c + i + 1 by omega]; exact g2, fun v hv' => ?_, by rw [List.length_append, List.length_singleton]; omega⟩
      · unfold app1
        simp only [evS_seq, evS_skip, evS_frz, evS_set, evS_exp, evS_ret, evS_ite, evS_par, evS_putS, evS_putA, evS_for, evT_op, evT_call, evT_var, evT_bl, evT_and, evT_or, evT_not, evE_var, evE_non, evE_bl, evE_int, evE_str, evE_op, evE_and, evE_or, evE_not, evE_ite, evE_tup, evE_lst, fin0, fin1, fin2, fin3, evE_dsp, evE_call, evE_mut, evE_lc, evE_lc2, evE_dc, evL_nil, evL_pk, evL_lnt, evL_var, evL_non, evL_bl, evL_int, evL_str, evL_op, evL_tup, evL_lst, evL_call, evL_lc, evL_lc2, evL_dc, evL_ite, evL_and, evL_or, evL_not, bind_ok, ofE_ok, ofO_some, next_nx, next_ret, rdS_0, rdS_s, Option.isSome_some, if_true, Bool.false_eq_true, if_false, lnts, callO, back, endF, readAll, Option.map_some, Option.bind_some, List.set_cons_zero, List.set_cons_succ, asgT, Dt.truthy, oF_add, oF_sub, oF_neg, oF_eq, oF_ne, oF_lt, oF_gt, oF_le, oF_ge, oF_in, oF_nin, oF_isN, oF_notN, oF_idx, oF_slice, oF_sliceL, oF_sliceH, oF_rev, oF_len, oF_int, oF_min2, oF_max2, oF_list, oF_tuple, oF_sorted, oF_all, oF_any, oF_isInt, oF_isBool, oF_isTuple, oF_isList, oF_isStr, oF_range1, oF_range2, oF_count, oF_index, oF_index3, opR_f, dB_s, fAdd_ii, fSub_ii, fNeg_i, fLen_L, fLen_T, fLen_D, fInt_i, dLt_ii, dGt_ii, dLe_ii, fIdx_L, fIdx_T, fRev_L, fRev_T, fList_L, fList_T, fTuple_L, fTuple_T, fMin2_ii, fMax2_ii, fSlH_T, fSlL_T, fSlH_L, fSlL_L, at_0, at_1, dEq_ii, dEq_bb, dEq_tw, dIn_tw, dIn_iT, dIn_iL, evE_chn, evE_meth, chnO_t, chnO_f, evL_meth, evL_mut, evL_chn, evS_unp, evS_fgt, isIntD, isBoolD, isTupleD, isListD, isSeqD, Bool.not_true, Bool.not_false, items1, itemsF, Dt.listOf, decide_true, decide_false, e]
        rw [if_pos (by rw [sl24]; omega)]
      · rcases List.mem_append.mp hv' with hv' | hv'
        · exact hv v hv'
        · cases List.mem_singleton.mp hv'
          exact vok_tp (by have := (hE w hm).2; omega))
  refine ⟨ps, p', e, g'.mono (by omega), hv, by omega⟩
end K14
end
section
set_option Elab.async false
set_option linter.all false
set_option maxRecDepth 100000
set_option maxHeartbeats 8000000
namespace K14
open PySem Dt
theorem s_chk (k : Nat) (ns p : D) (o2 : Option D) (n : Int) (ps ds : List (Int × Int)) (vs : List D) (E v : D) (o8 o9 o10 o11 o12 : Option D) (h : WebOk n ps) (hd : DirOk n ps ds) (hv : Vok v) :
    forF ⟨Dt.run P0 12 (k + 9), 12, P0.sub⟩ (.v 9) bChk v (σL ns p o2 (.tuple [.int n, tws ps]) n (tws ds) vs E o8 o9 o10 o11 o12) = .nx (σL ns p o2 (.tuple [.int n, tws ps]) n (tws ds) vs E o8 (some v) o10 o11 o12) := by
  obtain ⟨⟨r, hr⟩, s, hs⟩ := judged n ps ds h hd v hv
  unfold forF
  simp only [evS_seq, evS_skip, evS_frz, evS_set, evS_exp, evS_ret, evS_ite, evS_par, evS_putS, evS_putA, evS_for, evT_op, evT_call, evT_var, evT_bl, evT_and, evT_or, evT_not, evE_var, evE_non, evE_bl, evE_int, evE_str, evE_op, evE_and, evE_or, evE_not, evE_ite, evE_tup, evE_lst, fin0, fin1, fin2, fin3, evE_dsp, evE_call, evE_mut, evE_lc, evE_lc2, evE_dc, evL_nil, evL_pk, evL_lnt, evL_var, evL_non, evL_bl, evL_int, evL_str, evL_op, evL_tup, evL_lst, evL_call, evL_lc, evL_lc2, evL_dc, evL_ite, evL_and, evL_or, evL_not, bind_ok, ofE_ok, ofO_some, next_nx, next_ret, rdS_0, rdS_s, Option.isSome_some, if_true, Bool.false_eq_true, if_false, lnts, callO, back, endF, readAll, Option.map_some, Option.bind_some, List.set_cons_zero, List.set_cons_succ, asgT, Dt.truthy, oF_add, oF_sub, oF_neg, oF_eq, oF_ne, oF_lt, oF_gt, oF_le, oF_ge, oF_in, oF_nin, oF_isN, oF_notN, oF_idx, oF_slice, oF_sliceL, oF_sliceH, oF_rev, oF_len, oF_int, oF_min2, oF_max2, oF_list, oF_tuple, oF_sorted, oF_all, oF_any, oF_isInt, oF_isBool, oF_isTuple, oF_isList, oF_isStr, oF_range1, oF_range2, oF_count, oF_index, oF_index3, opR_f, dB_s, fAdd_ii, fSub_ii, fNeg_i, fLen_L, fLen_T, fLen_D, fInt_i, dLt_ii, dGt_ii, dLe_ii, fIdx_L, fIdx_T, fRev_L, fRev_T, fList_L, fList_T, fTuple_L, fTuple_T, fMin2_ii, fMax2_ii, fSlH_T, fSlL_T, fSlH_L, fSlL_L, at_0, at_1, dEq_ii, dEq_bb, dEq_tw, dIn_tw, dIn_iT, dIn_iL, evE_chn, evE_meth, chnO_t, chnO_f, evL_meth, evL_mut, evL_chn, evS_unp, evS_fgt, isIntD, isBoolD, isTupleD, isListD, isSeqD, Bool.not_true, Bool.not_false, items1, itemsF, Dt.listOf, decide_true, decide_false, (hr k).1, (hr k).2, (hs k).1, (hs k).2, f19 (k + 8)]
theorem s_chks (k : Nat) (ns p : D) (o2 : Option D) (n : Int) (ps ds : List (Int × Int)) (vs : List D) (E : D) (o8 o9 o10 o11 o12 : Option D) (h : WebOk n ps) (hd : DirOk n ps ds) (hv : ∀ v ∈ vs, Vok v) :
    ∃ o9' : Option D, forLoop (forF ⟨Dt.run P0 12 (k + 9), 12, P0.sub⟩ (.v 9) bChk) vs (σL ns p o2 (.tuple [.int n, tws ps]) n (tws ds) vs E o8 o9 o10 o11 o12) = .nx (σL ns p o2 (.tuple [.int n, tws ps]) n (tws ds) vs E o8 o9' o10 o11 o12) := by
  obtain ⟨σ', q1, _, o9', rfl⟩ := for_inv (f := forF ⟨Dt.run P0 12 (k + 9), 12, P0.sub⟩ (.v 9) bChk) (items := vs) (σ := σL ns p o2 (.tuple [.int n, tws ps]) n (tws ds) vs E o8 o9 o10 o11 o12)
    (fun rest σ => (∀ v ∈ rest, Vok v) ∧ ∃ o9' : Option D, σ = σL ns p o2 (.tuple [.int n, tws ps]) n (tws ds) vs E o8 o9' o10 o11 o12)
    ⟨hv, o9, rfl⟩ (by
      rintro v rest σ _ ⟨hr, o9', rfl⟩
      exact ⟨_, .inl (s_chk k ns p o2 n ps ds vs E v o8 o9' o10 o11 o12 h hd (hr v (List.mem_cons_self ..))), fun u hu => hr u (List.mem_cons_of_mem _ hu), _, rfl⟩)
  exact ⟨o9', q1⟩
theorem s_turns (k : Nat) {p : D} {c : Int} (ns : D) (o2 : Option D) (W : D) (n m : Int) (ds : List (Int × Int)) (vs : List D) (E : D) (o8 o9 o10 o11 o12 : Option D) (g : Gp c p) (hc : c + 2000 ≤ 1000000) (hm : 0 ≤ m ∧ m ≤ 6 ∧ (0 < m → 0 < n)) (h9 : n ≤ 9) (hd : ds.length ≤ 20) (hv : ∀ v ∈ vs, Vok v) (hl : vs.length ≤ 100) :
    ∃ (vs' : List D) (p' : D) (o8' o10' o11' o12' : Option D), Gp (c + 400) p' ∧ (∀ v ∈ vs', Vok v) ∧ forLoop (forF ⟨Dt.run P0 12 (k + 3), 12, P0.sub⟩ (.v 8) bTurn) (rangeD 0 m) (σL ns p o2 W n (tws ds) vs E o8 o9 o10 o11 o12) = .nx (σL ns p' o2 W n (tws ds) vs' E o8' o9 o10' o11' o12') := by
  obtain ⟨σ', q1, vs', p', o8', o10', o11', o12', i, rfl, ri, i0, i1, g', hv', hl'⟩ := for_inv (f := forF ⟨Dt.run P0 12 (k + 3), 12, P0.sub⟩ (.v 8) bTurn) (items := rangeD 0 m) (σ := σL ns p o2 W n (tws ds) vs E o8 o9 o10 o11 o12)
    (fun rest σ => ∃ (vs' : List D) (p' : D) (o8' o10' o11' o12' : Option D) (i : Int), σ = σL ns p' o2 W n (tws ds) vs' E o8' o9 o10' o11' o12' ∧ rest = rangeD i m ∧ 0 ≤ i ∧ i ≤ m ∧ Gp (c + 52 * i) p' ∧ (∀ v ∈ vs', Vok v) ∧ (vs'.length : Int) ≤ 100 + 10 * i)
    ⟨vs, p, o8, o10, o11, o12, 0, rfl, rfl, by omega, by omega, by simpa using g, hv, by omega⟩ (by
      rintro d rest σ _ ⟨vs', p', o8', o10', o11', o12', i, rfl, ri, i0, i1, g', hv', hl'⟩
      obtain ⟨a1, rfl, a3⟩ := rangeD_inv ri
      obtain ⟨vs2, p2, x10, x11, x12, g2, hv2, hl2, e⟩ := s_law_turn k ns o2 W n ds vs' E (.int i) o8' o9 o10' o11' o12' g' (by omega) (hm.2.2 (by omega)) h9 hd hv' (by omega)
      exact ⟨_, .inl e, vs2, p2, _, _, _, _, i + 1, rfl, a3, by omega, by omega, by rw [show c + 52 * (i + 1) = c + 52 * i + 52 by omega]; exact g2, hv2, by omega⟩)
  exact ⟨vs', p', o8', o10', o11', o12', g'.mono (by omega), hv', q1⟩
abbrev bLap : S := (.seq (.set 3 (.call 20 (.cons (.lnt 1) (.cons (.int 9) (.cons (.int 20) .nil)))))   (.seq (.unp (.cons (.v 4) (.cons (.v 5) .nil)) (.tup (.cons (.op .idx false (.cons (.pk 3) (.cons (.int 0) .nil))) (.cons (.call 21 (.cons (.lnt 1) (.cons (.var 3) .nil))) .nil))))   (.seq (.set 6 (.lst .F (.cons .non (.cons (.tup .nil) (.cons (.int 0) (.cons (.str "way") (.cons (.tup (.cons (.int 0) (.cons (.int 1) .nil))) (.cons (.var 5) .nil))))))))   (.seq (.set 7 (.lc [10] (.v 10) .seq (.cons (.op .sliceH false (.cons (.call 28 (.cons (.var 4) (.cons (.var 5) .nil))) (.cons (.int 400) .nil))) .nil) (.or (.op .isIn false (.cons (.tup (.cons (.op .idx false (.cons (.pk 10) (.cons (.op .neg false (.cons (.int 1) .nil)) .nil))) (.cons (.op .idx false (.cons (.pk 10) (.cons (.int 0) .nil))) .nil))) (.cons (.pk 5) .nil))) (.op .isIn false (.cons (.tup (.cons (.op .idx false (.cons (.pk 10) (.cons (.int 0) .nil))) (.cons (.op .idx false (.cons (.pk 10) (.cons (.op .neg false (.cons (.int 1) .nil)) .nil))) .nil))) (.cons (.pk 5) .nil)))) .F (.var 10)))   (.seq (.set 6 (.op .add true (.cons (.pk 6) (.cons (.lc [8] (.v 8) .range1 (.cons (.int 6) .nil) (.op .ne false (.cons (.pk 7) (.cons (.lst .F .nil) .nil))) .F (.call 17 (.cons (.lnt 1) (.cons (.var 7) .nil)))) .nil))))   (.seq (.for (.v 8) .range1 (.cons (.ite (.op .gt false (.cons (.pk 4) (.cons (.int 0) .nil))) (.int 6) (.int 0)) .nil)   (.seq (.set 10 (.call 29 (.cons (.lnt 1) (.cons (.var 4) (.cons (.var 5) .nil)))))   (.seq (.par (.cons (.v 11) (.cons (.v 12) .nil)) (.cons (.call 16 (.cons (.lnt 1) (.cons (.op .len false (.cons (.pk 10) .nil)) .nil))) (.cons (.call 16 (.cons (.lnt 1) (.cons (.var 4) .nil))) .nil)))   (.seq (.set 6 (.op .add true (.cons (.pk 6) (.cons (.lst .F (.cons (.var 10) (.cons (.op .add false (.cons (.op .add false (.cons (.op .sliceH false (.cons (.pk 10) (.cons (.pk 11) .nil))) (.cons (.tup (.cons (.var 12) .nil)) .nil))) (.cons (.op .sliceL false (.cons (.pk 10) (.cons (.op .add false (.cons (.pk 11) (.cons (.int 1) .nil))) .nil))) .nil))) (.cons (.op .add false (.cons (.op .sliceH false (.cons (.pk 10) (.cons (.pk 11) .nil))) (.cons (.op .sliceL false (.cons (.pk 10) (.cons (.op .add false (.cons (.pk 11) (.cons (.int 1) .nil))) .nil))) .nil))) (.cons (.op .rev false (.cons (.pk 10) .nil)) (.cons (.op .list false (.cons (.pk 10) .nil)) .nil)))))) .nil))))   (.seq (.set 6 (.op .add true (.cons (.pk 6) (.cons (.lst .F (.cons (.op .add false (.cons (.op .add false (.cons (.op .sliceH false (.cons (.pk 10) (.cons (.pk 11) .nil))) (.cons (.tup (.cons (.var 12) .nil)) .nil))) (.cons (.op .sliceL false (.cons (.pk 10) (.cons (.pk 11) .nil))) .nil))) (.cons (.op .add false (.cons (.op .sliceL false (.cons (.pk 10) (.cons (.pk 11) .nil))) (.cons (.op .sliceH false (.cons (.pk 10) (.cons (.pk 11) .nil))) .nil))) (.cons (.op .add false (.cons (.pk 10) (.cons (.op .sliceH false (.cons (.pk 10) (.cons (.int 1) .nil))) .nil))) (.cons (.op .add false (.cons (.op .sliceH false (.cons (.pk 10) (.cons (.op .neg false (.cons (.int 1) .nil)) .nil))) (.cons (.tup (.cons (.bl true) .nil)) .nil))) .nil))))) .nil))))   (.seq (.exp (.mut .append 6 (.cons (.op .add false (.cons (.pk 10) (.cons (.tup (.cons (.var 4) .nil)) .nil))) .nil)))   .skip))))))   (.seq (.frz 6)   (.seq (.for (.v 9) .seq (.cons (.var 6) .nil)   (.seq (.ite (.not (.call 19 (.cons (.call 13 (.cons (.var 3) (.cons (.var 5) (.cons (.var 9) .nil)))) (.cons (.call 25 (.cons (.var 4) (.cons (.var 5) (.cons (.var 9) .nil)))) .nil))))   (.seq (.ret (.bl false))   .skip)   .skip)   (.seq (.ite (.not (.call 19 (.cons (.call 14 (.cons (.var 3) (.cons (.var 5) (.cons (.var 9) .nil)))) (.cons (.call 27 (.cons (.var 3) (.cons (.var 5) (.cons (.var 9) .nil)))) .nil))))   (.seq (.ret (.bl false))   .skip)   .skip)   .skip)))   (.seq (.fgt 6 (.O .F))   .skip)))))))))
theorem fin6 {α : Type} {a b : α} {x y z u v w : D} : (if [x, y, z, u, v, w].length ≤ sizeLine then a else b) = a := if_pos (few (by simp))
theorem s_lap (k : Nat) {p : D} {c : Int} (ns d : D) (o2 o3 o4 o5 o6 o7 o8 o9 o10 o11 o12 : Option D) (g : Gp c p) (hc : c + 5000 ≤ 1000000) :
    ∃ (p' : D) (x3 x4 x5 x7 x8 x9 x10 x11 x12 : Option D), Gp (c + 1000) p' ∧ forF ⟨Dt.run P0 12 (k + 9), 12, P0.sub⟩ (.v 2) bLap d [some ns, some p, o2, o3, o4, o5, o6, o7, o8, o9, o10, o11, o12] = .nx [some ns, some p', some d, x3, x4, x5, none, x7, x8, x9, x10, x11, x12] := by
  obtain ⟨n, ps, p1, e1, hw, h9, hl, g1⟩ := f_web (k + 6) g (by omega)
  obtain ⟨ds, p2, e2, hd, g2⟩ := f_dirs (k + 6) n ps hw g1 (by omega)
  have A := ar_of hw hd h9 hl
  obtain ⟨Ws, e3, w1⟩ := f_ways (k + 8) n ds A
  have n0 := hw.n0
  have c1 : cutD (Ws.map tp) none (some ((400 : Nat) : Int)) = (Ws.take 400).map tp := by rw [cut_hi, ← List.map_take]
  have c1 : cutD (Ws.map tp) none (some 400) = (Ws.take 400).map tp := c1
  let L0 : List D := [.none, .tuple [], .int 0, .str "way", .tuple [.int 0, .int 1], tws ds]
  have hL0 : ∀ v ∈ L0, Vok v := fun v hv => by
    simp only [L0, List.mem_cons, List.not_mem_nil, or_false] at hv
    rcases hv with rfl | rfl | rfl | rfl | rfl | rfl
    · exact .inl rfl
    · exact vok_T okL_nil (by simp)
    · exact .inl rfl
    · exact .inl rfl
    · exact vok_T (okL_ints [0, 1]) (by simp)
    · exact vok_T (okL_tws ds) (by rw [List.length_map]; have := A.len; omega)
  obtain ⟨Es, e4, w2, w3⟩ := s_ends ⟨Dt.run P0 12 (k + 9), 12, P0.sub⟩ ns p2 (some d) (.tuple [.int n, tws ps]) n ds L0 o7 o8 o9 o10 o11 o12 (Ws.take 400) (fun w hw => w1 w (List.mem_of_mem_take hw)) (by rw [List.length_take]; omega)
  obtain ⟨pk, p3, e5, g3, hpk, lpk⟩ := s_picks (k + 7) ns (some d) (.tuple [.int n, tws ps]) n (tws ds) L0 Es o8 o9 none o11 o12 g2 (by omega) w2 w3
  have r1 : opR .add true [.list L0, .list pk] = some (.list (L0 ++ pk)) := opR_t (fAdd_LL (by simp [L0]; omega)) rfl
  obtain ⟨vs, p4, y8, y10, y11, y12, g4, hvs, e6⟩ := s_turns (k + 6) ns (some d) (.tuple [.int n, tws ps]) n (if 0 < n then 6 else 0) ds (L0 ++ pk) (.list (Es.map tp)) none o9 none o11 o12 g3 (by omega) (by split <;> omega) h9 A.len (fun v hv => (List.mem_append.mp hv).elim (hL0 v) (hpk v)) (by simp [L0]; omega)
  obtain ⟨y9, e7⟩ := s_chks k ns p4 (some d) n ps ds vs (.list (Es.map tp)) y8 o9 y10 y11 y12 hw hd hvs
  refine ⟨p4, some (.tuple [.int n, tws ps]), some (.int n), some (tws ds), some (.list (Es.map tp)), y8, y9, y10, y11, y12, g4.mono (by omega), ?_⟩
  have e1 : Dt.run P0 12 (k + 9) 20 [p, .int 9, .int 20] = .ret (.tuple [.int n, tws ps]) [p1] := e1
  have e2 : Dt.run P0 12 (k + 9) 21 [p1, .tuple [.int n, tws ps]] = .ret (tws ds) [p2] := e2
  have e3 : Dt.run P0 12 (k + 9) 28 [.int n, tws ds] = .ret (.list (Ws.map tp)) [] := e3
  have it6 : itR1 (.int 6) = some (rangeD 0 6) := it_r1 6 (by decide)
  have itm : itR1 (.int (if 0 < n then 6 else 0)) = some (rangeD 0 (if 0 < n then 6 else 0)) := by
    split
    · exact it_r1 6 (by decide)
    · exact it_r1 0 (by decide)
  have e4x : runG [10] .list (turnG [10] (.v 10) (evT ⟨Dt.run P0 12 (k + 9), 12, P0.sub⟩ (.or (.op .isIn false (.cons (.tup (.cons (.op .idx false (.cons (.pk 10) (.cons (.op .neg false (.cons (.int 1) .nil)) .nil))) (.cons (.op .idx false (.cons (.pk 10) (.cons (.int 0) .nil))) .nil))) (.cons (.pk 5) .nil))) (.op .isIn false (.cons (.tup (.cons (.op .idx false (.cons (.pk 10) (.cons (.int 0) .nil))) (.cons (.op .idx false (.cons (.pk 10) (.cons (.op .neg false (.cons (.int 1) .nil)) .nil))) .nil))) (.cons (.pk 5) .nil))))) (app1 (evE ⟨Dt.run P0 12 (k + 9), 12, P0.sub⟩ (.var 10)))) [] ((Ws.take 400).map tp) [some ns, some p2, some d, some (.tuple [.int n, tws ps]), some (.int n), some (tws ds), some (.list [.none, .tuple [], .int 0, .str "way", .tuple [.int 0, .int 1], tws ds]), o7, o8, o9, o10, o11, o12] = .ok (.list (Es.map tp)) [some ns, some p2, some d, some (.tuple [.int n, tws ps]), some (.int n), some (tws ds), some (.list [.none, .tuple [], .int 0, .str "way", .tuple [.int 0, .int 1], tws ds]), o7, o8, o9, none, o11, o12] := e4
  have e5x : runG [8] .list (turnG [8] (.v 8) (evT ⟨Dt.run P0 12 (k + 9), 12, P0.sub⟩ (.op .ne false (.cons (.pk 7) (.cons (.lst .F .nil) .nil)))) (app1 (evE ⟨Dt.run P0 12 (k + 9), 12, P0.sub⟩ (.call 17 (.cons (.lnt 1) (.cons (.var 7) .nil)))))) [] (rangeD 0 6) [some ns, some p2, some d, some (.tuple [.int n, tws ps]), some (.int n), some (tws ds), some (.list [.none, .tuple [], .int 0, .str "way", .tuple [.int 0, .int 1], tws ds]), some (.list (Es.map tp)), o8, o9, none, o11, o12] = .ok (.list pk) [some ns, some p3, some d, some (.tuple [.int n, tws ps]), some (.int n), some (tws ds), some (.list [.none, .tuple [], .int 0, .str "way", .tuple [.int 0, .int 1], tws ds]), some (.list (Es.map tp)), none, o9, none, o11, o12] := e5
  have r1x : opR .add true [.list [.none, .tuple [], .int 0, .str "way", .tuple [.int 0, .int 1], tws ds], .list pk] = some (.list (L0 ++ pk)) := r1
  have e6x : forLoop (forF ⟨Dt.run P0 12 (k + 9), 12, P0.sub⟩ (.v 8) bTurn) (rangeD 0 (if 0 < n then 6 else 0)) [some ns, some p3, some d, some (.tuple [.int n, tws ps]), some (.int n), some (tws ds), some (.list (L0 ++ pk)), some (.list (Es.map tp)), none, o9, none, o11, o12] = .nx [some ns, some p4, some d, some (.tuple [.int n, tws ps]), some (.int n), some (tws ds), some (.list vs), some (.list (Es.map tp)), y8, o9, y10, y11, y12] := e6
  have e7x : forLoop (forF ⟨Dt.run P0 12 (k + 9), 12, P0.sub⟩ (.v 9) bChk) vs [some ns, some p4, some d, some (.tuple [.int n, tws ps]), some (.int n), some (tws ds), some (.list vs), some (.list (Es.map tp)), y8, o9, y10, y11, y12] = .nx [some ns, some p4, some d, some (.tuple [.int n, tws ps]), some (.int n), some (tws ds), some (.list vs), some (.list (Es.map tp)), y8, y9, y10, y11, y12] := e7
  unfold forF
  simp only [evS_seq, evS_skip, evS_frz, evS_set, evS_exp, evS_ret, evS_ite, evS_par, evS_putS, evS_putA, evS_for, evT_op, evT_call, evT_var, evT_bl, evT_and, evT_or, evT_not, evE_var, evE_non, evE_bl, evE_int, evE_str, evE_op, evE_and, evE_or, evE_not, evE_ite, evE_tup, evE_lst, fin0, fin1, fin2, fin3, evE_dsp, evE_call, evE_mut, evE_lc, evE_lc2, evE_dc, evL_nil, evL_pk, evL_lnt, evL_var, evL_non, evL_bl, evL_int, evL_str, evL_op, evL_tup, evL_lst, evL_call, evL_lc, evL_lc2, evL_dc, evL_ite, evL_and, evL_or, evL_not, bind_ok, ofE_ok, ofO_some, next_nx, next_ret, rdS_0, rdS_s, Option.isSome_some, if_true, Bool.false_eq_true, if_false, lnts, callO, back, endF, readAll, Option.map_some, Option.bind_some, List.set_cons_zero, List.set_cons_succ, asgT, Dt.truthy, oF_add, oF_sub, oF_neg, oF_eq, oF_ne, oF_lt, oF_gt, oF_le, oF_ge, oF_in, oF_nin, oF_isN, oF_notN, oF_idx, oF_slice, oF_sliceL, oF_sliceH, oF_rev, oF_len, oF_int, oF_min2, oF_max2, oF_list, oF_tuple, oF_sorted, oF_all, oF_any, oF_isInt, oF_isBool, oF_isTuple, oF_isList, oF_isStr, oF_range1, oF_range2, oF_count, oF_index, oF_index3, opR_f, dB_s, fAdd_ii, fSub_ii, fNeg_i, fLen_L, fLen_T, fLen_D, fInt_i, dLt_ii, dGt_ii, dLe_ii, fIdx_L, fIdx_T, fRev_L, fRev_T, fList_L, fList_T, fTuple_L, fTuple_T, fMin2_ii, fMax2_ii, fSlH_T, fSlL_T, fSlH_L, fSlL_L, at_0, at_1, dEq_ii, dEq_bb, dEq_tw, dIn_tw, dIn_iT, dIn_iL, evE_chn, evE_meth, chnO_t, chnO_f, evL_meth, evL_mut, evL_chn, evS_unp, evS_fgt, isIntD, isBoolD, isTupleD, isListD, isSeqD, Bool.not_true, Bool.not_false, items1, itemsF, Dt.listOf, decide_true, decide_false, e1, e2, fin6, e3, c1]
  rw [e4x]
  simp only [evS_seq, evS_skip, evS_frz, evS_set, evS_exp, evS_ret, evS_ite, evS_par, evS_putS, evS_putA, evS_for, evT_op, evT_call, evT_var, evT_bl, evT_and, evT_or, evT_not, evE_var, evE_non, evE_bl, evE_int, evE_str, evE_op, evE_and, evE_or, evE_not, evE_ite, evE_tup, evE_lst, fin0, fin1, fin2, fin3, evE_dsp, evE_call, evE_mut, evE_lc, evE_lc2, evE_dc, evL_nil, evL_pk, evL_lnt, evL_var, evL_non, evL_bl, evL_int, evL_str, evL_op, evL_tup, evL_lst, evL_call, evL_lc, evL_lc2, evL_dc, evL_ite, evL_and, evL_or, evL_not, bind_ok, ofE_ok, ofO_some, next_nx, next_ret, rdS_0, rdS_s, Option.isSome_some, if_true, Bool.false_eq_true, if_false, lnts, callO, back, endF, readAll, Option.map_some, Option.bind_some, List.set_cons_zero, List.set_cons_succ, asgT, Dt.truthy, oF_add, oF_sub, oF_neg, oF_eq, oF_ne, oF_lt, oF_gt, oF_le, oF_ge, oF_in, oF_nin, oF_isN, oF_notN, oF_idx, oF_slice, oF_sliceL, oF_sliceH, oF_rev, oF_len, oF_int, oF_min2, oF_max2, oF_list, oF_tuple, oF_sorted, oF_all, oF_any, oF_isInt, oF_isBool, oF_isTuple, oF_isList, oF_isStr, oF_range1, oF_range2, oF_count, oF_index, oF_index3, opR_f, dB_s, fAdd_ii, fSub_ii, fNeg_i, fLen_L, fLen_T, fLen_D, fInt_i, dLt_ii, dGt_ii, dLe_ii, fIdx_L, fIdx_T, fRev_L, fRev_T, fList_L, fList_T, fTuple_L, fTuple_T, fMin2_ii, fMax2_ii, fSlH_T, fSlL_T, fSlH_L, fSlL_L, at_0, at_1, dEq_ii, dEq_bb, dEq_tw, dIn_tw, dIn_iT, dIn_iL, evE_chn, evE_meth, chnO_t, chnO_f, evL_meth, evL_mut, evL_chn, evS_unp, evS_fgt, isIntD, isBoolD, isTupleD, isListD, isSeqD, Bool.not_true, Bool.not_false, items1, itemsF, Dt.listOf, decide_true, decide_false, it6]
  rw [e5x]
  simp only [evS_seq, evS_skip, evS_frz, evS_set, evS_exp, evS_ret, evS_ite, evS_par, evS_putS, evS_putA, evS_for, evT_op, evT_call, evT_var, evT_bl, evT_and, evT_or, evT_not, evE_var, evE_non, evE_bl, evE_int, evE_str, evE_op, evE_and, evE_or, evE_not, evE_ite, evE_tup, evE_lst, fin0, fin1, fin2, fin3, evE_dsp, evE_call, evE_mut, evE_lc, evE_lc2, evE_dc, evL_nil, evL_pk, evL_lnt, evL_var, evL_non, evL_bl, evL_int, evL_str, evL_op, evL_tup, evL_lst, evL_call, evL_lc, evL_lc2, evL_dc, evL_ite, evL_and, evL_or, evL_not, bind_ok, ofE_ok, ofO_some, next_nx, next_ret, rdS_0, rdS_s, Option.isSome_some, if_true, Bool.false_eq_true, if_false, lnts, callO, back, endF, readAll, Option.map_some, Option.bind_some, List.set_cons_zero, List.set_cons_succ, asgT, Dt.truthy, oF_add, oF_sub, oF_neg, oF_eq, oF_ne, oF_lt, oF_gt, oF_le, oF_ge, oF_in, oF_nin, oF_isN, oF_notN, oF_idx, oF_slice, oF_sliceL, oF_sliceH, oF_rev, oF_len, oF_int, oF_min2, oF_max2, oF_list, oF_tuple, oF_sorted, oF_all, oF_any, oF_isInt, oF_isBool, oF_isTuple, oF_isList, oF_isStr, oF_range1, oF_range2, oF_count, oF_index, oF_index3, opR_f, dB_s, fAdd_ii, fSub_ii, fNeg_i, fLen_L, fLen_T, fLen_D, fInt_i, dLt_ii, dGt_ii, dLe_ii, fIdx_L, fIdx_T, fRev_L, fRev_T, fList_L, fList_T, fTuple_L, fTuple_T, fMin2_ii, fMax2_ii, fSlH_T, fSlL_T, fSlH_L, fSlL_L, at_0, at_1, dEq_ii, dEq_bb, dEq_tw, dIn_tw, dIn_iT, dIn_iL, evE_chn, evE_meth, chnO_t, chnO_f, evL_meth, evL_mut, evL_chn, evS_unp, evS_fgt, isIntD, isBoolD, isTupleD, isListD, isSeqD, Bool.not_true, Bool.not_false, items1, itemsF, Dt.listOf, decide_true, decide_false, r1x]
  have hx : ∀ σ : Sl, (if decide (0 < n) = true then Out.ok (PyData.int 6) σ else Out.ok (PyData.int 0) σ) = Out.ok (PyData.int (if 0 < n then 6 else 0)) σ := fun σ => by
    by_cases q : 0 < n
    · simp [q]
    · simp [q]
  simp only [evS_seq, evS_skip, evS_frz, evS_set, evS_exp, evS_ret, evS_ite, evS_par, evS_putS, evS_putA, evS_for, evT_op, evT_call, evT_var, evT_bl, evT_and, evT_or, evT_not, evE_var, evE_non, evE_bl, evE_int, evE_str, evE_op, evE_and, evE_or, evE_not, evE_ite, evE_tup, evE_lst, fin0, fin1, fin2, fin3, evE_dsp, evE_call, evE_mut, evE_lc, evE_lc2, evE_dc, evL_nil, evL_pk, evL_lnt, evL_var, evL_non, evL_bl, evL_int, evL_str, evL_op, evL_tup, evL_lst, evL_call, evL_lc, evL_lc2, evL_dc, evL_ite, evL_and, evL_or, evL_not, bind_ok, ofE_ok, ofO_some, next_nx, next_ret, rdS_0, rdS_s, Option.isSome_some, if_true, Bool.false_eq_true, if_false, lnts, callO, back, endF, readAll, Option.map_some, Option.bind_some, List.set_cons_zero, List.set_cons_succ, asgT, Dt.truthy, oF_add, oF_sub, oF_neg, oF_eq, oF_ne, oF_lt, oF_gt, oF_le, oF_ge, oF_in, oF_nin, oF_isN, oF_notN, oF_idx, oF_slice, oF_sliceL, oF_sliceH, oF_rev, oF_len, oF_int, oF_min2, oF_max2, oF_list, oF_tuple, oF_sorted, oF_all, oF_any, oF_isInt, oF_isBool, oF_isTuple, oF_isList, oF_isStr, oF_range1, oF_range2, oF_count, oF_index, oF_index3, opR_f, dB_s, fAdd_ii, fSub_ii, fNeg_i, fLen_L, fLen_T, fLen_D, fInt_i, dLt_ii, dGt_ii, dLe_ii, fIdx_L, fIdx_T, fRev_L, fRev_T, fList_L, fList_T, fTuple_L, fTuple_T, fMin2_ii, fMax2_ii, fSlH_T, fSlL_T, fSlH_L, fSlL_L, at_0, at_1, dEq_ii, dEq_bb, dEq_tw, dIn_tw, dIn_iT, dIn_iL, evE_chn, evE_meth, chnO_t, chnO_f, evL_meth, evL_mut, evL_chn, evS_unp, evS_fgt, isIntD, isBoolD, isTupleD, isListD, isSeqD, Bool.not_true, Bool.not_false, items1, itemsF, Dt.listOf, decide_true, decide_false, hx, itm]
  rw [e6x]
  simp only [evS_seq, evS_skip, evS_frz, evS_set, evS_exp, evS_ret, evS_ite, evS_par, evS_putS, evS_putA, evS_for, evT_op, evT_call, evT_var, evT_bl, evT_and, evT_or, evT_not, evE_var, evE_non, evE_bl, evE_int, evE_str, evE_op, evE_and, evE_or, evE_not, evE_ite, evE_tup, evE_lst, fin0, fin1, fin2, fin3, evE_dsp, evE_call, evE_mut, evE_lc, evE_lc2, evE_dc, evL_nil, evL_pk, evL_lnt, evL_var, evL_non, evL_bl, evL_int, evL_str, evL_op, evL_tup, evL_lst, evL_call, evL_lc, evL_lc2, evL_dc, evL_ite, evL_and, evL_or, evL_not, bind_ok, ofE_ok, ofO_some, next_nx, next_ret, rdS_0, rdS_s, Option.isSome_some, if_true, Bool.false_eq_true, if_false, lnts, callO, back, endF, readAll, Option.map_some, Option.bind_some, List.set_cons_zero, List.set_cons_succ, asgT, Dt.truthy, oF_add, oF_sub, oF_neg, oF_eq, oF_ne, oF_lt, oF_gt, oF_le, oF_ge, oF_in, oF_nin, oF_isN, oF_notN, oF_idx, oF_slice, oF_sliceL, oF_sliceH, oF_rev, oF_len, oF_int, oF_min2, oF_max2, oF_list, oF_tuple, oF_sorted, oF_all, oF_any, oF_isInt, oF_isBool, oF_isTuple, oF_isList, oF_isStr, oF_range1, oF_range2, oF_count, oF_index, oF_index3, opR_f, dB_s, fAdd_ii, fSub_ii, fNeg_i, fLen_L, fLen_T, fLen_D, fInt_i, dLt_ii, dGt_ii, dLe_ii, fIdx_L, fIdx_T, fRev_L, fRev_T, fList_L, fList_T, fTuple_L, fTuple_T, fMin2_ii, fMax2_ii, fSlH_T, fSlL_T, fSlH_L, fSlL_L, at_0, at_1, dEq_ii, dEq_bb, dEq_tw, dIn_tw, dIn_iT, dIn_iL, evE_chn, evE_meth, chnO_t, chnO_f, evL_meth, evL_mut, evL_chn, evS_unp, evS_fgt, isIntD, isBoolD, isTupleD, isListD, isSeqD, Bool.not_true, Bool.not_false, items1, itemsF, Dt.listOf, decide_true, decide_false]
  rw [e7x]
  simp only [evS_seq, evS_skip, evS_frz, evS_set, evS_exp, evS_ret, evS_ite, evS_par, evS_putS, evS_putA, evS_for, evT_op, evT_call, evT_var, evT_bl, evT_and, evT_or, evT_not, evE_var, evE_non, evE_bl, evE_int, evE_str, evE_op, evE_and, evE_or, evE_not, evE_ite, evE_tup, evE_lst, fin0, fin1, fin2, fin3, evE_dsp, evE_call, evE_mut, evE_lc, evE_lc2, evE_dc, evL_nil, evL_pk, evL_lnt, evL_var, evL_non, evL_bl, evL_int, evL_str, evL_op, evL_tup, evL_lst, evL_call, evL_lc, evL_lc2, evL_dc, evL_ite, evL_and, evL_or, evL_not, bind_ok, ofE_ok, ofO_some, next_nx, next_ret, rdS_0, rdS_s, Option.isSome_some, if_true, Bool.false_eq_true, if_false, lnts, callO, back, endF, readAll, Option.map_some, Option.bind_some, List.set_cons_zero, List.set_cons_succ, asgT, Dt.truthy, oF_add, oF_sub, oF_neg, oF_eq, oF_ne, oF_lt, oF_gt, oF_le, oF_ge, oF_in, oF_nin, oF_isN, oF_notN, oF_idx, oF_slice, oF_sliceL, oF_sliceH, oF_rev, oF_len, oF_int, oF_min2, oF_max2, oF_list, oF_tuple, oF_sorted, oF_all, oF_any, oF_isInt, oF_isBool, oF_isTuple, oF_isList, oF_isStr, oF_range1, oF_range2, oF_count, oF_index, oF_index3, opR_f, dB_s, fAdd_ii, fSub_ii, fNeg_i, fLen_L, fLen_T, fLen_D, fInt_i, dLt_ii, dGt_ii, dLe_ii, fIdx_L, fIdx_T, fRev_L, fRev_T, fList_L, fList_T, fTuple_L, fTuple_T, fMin2_ii, fMax2_ii, fSlH_T, fSlL_T, fSlH_L, fSlL_L, at_0, at_1, dEq_ii, dEq_bb, dEq_tw, dIn_tw, dIn_iT, dIn_iL, evE_chn, evE_meth, chnO_t, chnO_f, evL_meth, evL_mut, evL_chn, evS_unp, evS_fgt, isIntD, isBoolD, isTupleD, isListD, isSeqD, Bool.not_true, Bool.not_false, items1, itemsF, Dt.listOf, decide_true, decide_false]
end K14
end
section
set_option Elab.async false
set_option linter.all false
set_option maxRecDepth 100000
set_option maxHeartbeats 4000000
namespace K14
open PySem Dt
theorem law_true (k : Nat) (ns : List Int) (hl : ns.length ≤ 1000) : Dt.run P0 12 (k + 10) 30 [.list (ns.map .int)] = .ret (.bool true) [] := by
  obtain ⟨p, e, g⟩ := f_pen (k + 8) ns hl
  have e : Dt.run P0 12 (k + 9) 15 [.list (ns.map .int)] = .ret p [] := e
  obtain ⟨σ', q1, p', x2, x3, x4, x5, x6, x7, x8, x9, x10, x11, x12, i, rfl, ri, i0, i1, g'⟩ := for_inv (f := forF ⟨Dt.run P0 12 (k + 9), 12, P0.sub⟩ (.v 2) bLap) (items := rangeD 0 4) (σ := [some (.list (ns.map .int)), some p, none, none, none, none, none, none, none, none, none, none, none])
    (fun rest σ => ∃ (p' : D) (x2 x3 x4 x5 x6 x7 x8 x9 x10 x11 x12 : Option D) (i : Int), σ = [some (.list (ns.map .int)), some p', x2, x3, x4, x5, x6, x7, x8, x9, x10, x11, x12] ∧ rest = rangeD i 4 ∧ 0 ≤ i ∧ i ≤ 4 ∧ Gp (1000 * i) p')
    ⟨p, none, none, none, none, none, none, none, none, none, none, none, 0, rfl, rfl, by decide, by decide, by simpa using g⟩ (by
      rintro d rest σ _ ⟨p', x2, x3, x4, x5, x6, x7, x8, x9, x10, x11, x12, i, rfl, ri, i0, i1, g'⟩
      obtain ⟨a1, rfl, a3⟩ := rangeD_inv ri
      obtain ⟨p2, y3, y4, y5, y7, y8, y9, y10, y11, y12, g2, e2⟩ := s_lap k (.list (ns.map .int)) (.int i) x2 x3 x4 x5 x6 x7 x8 x9 x10 x11 x12 g' (by omega)
      exact ⟨_, .inl e2, p2, _, _, _, _, _, _, _, _, _, _, _, i + 1, rfl, a3, by omega, by omega, by rw [show 1000 * (i + 1) = 1000 * i + 1000 by omega]; exact g2⟩)
  have it4 : itR1 (.int 4) = some (rangeD 0 4) := it_r1 4 (by decide)
  rw [run_law]
  unfold b_law
  simp only [evS_seq, evS_skip, evS_frz, evS_set, evS_exp, evS_ret, evS_ite, evS_par, evS_putS, evS_putA, evS_for, evT_op, evT_call, evT_var, evT_bl, evT_and, evT_or, evT_not, evE_var, evE_non, evE_bl, evE_int, evE_str, evE_op, evE_and, evE_or, evE_not, evE_ite, evE_tup, evE_lst, fin0, fin1, fin2, fin3, evE_dsp, evE_call, evE_mut, evE_lc, evE_lc2, evE_dc, evL_nil, evL_pk, evL_lnt, evL_var, evL_non, evL_bl, evL_int, evL_str, evL_op, evL_tup, evL_lst, evL_call, evL_lc, evL_lc2, evL_dc, evL_ite, evL_and, evL_or, evL_not, bind_ok, ofE_ok, ofO_some, next_nx, next_ret, rdS_0, rdS_s, Option.isSome_some, if_true, Bool.false_eq_true, if_false, lnts, callO, back, endF, readAll, Option.map_some, Option.bind_some, List.set_cons_zero, List.set_cons_succ, asgT, Dt.truthy, oF_add, oF_sub, oF_neg, oF_eq, oF_ne, oF_lt, oF_gt, oF_le, oF_ge, oF_in, oF_nin, oF_isN, oF_notN, oF_idx, oF_slice, oF_sliceL, oF_sliceH, oF_rev, oF_len, oF_int, oF_min2, oF_max2, oF_list, oF_tuple, oF_sorted, oF_all, oF_any, oF_isInt, oF_isBool, oF_isTuple, oF_isList, oF_isStr, oF_range1, oF_range2, oF_count, oF_index, oF_index3, opR_f, dB_s, fAdd_ii, fSub_ii, fNeg_i, fLen_L, fLen_T, fLen_D, fInt_i, dLt_ii, dGt_ii, dLe_ii, fIdx_L, fIdx_T, fRev_L, fRev_T, fList_L, fList_T, fTuple_L, fTuple_T, fMin2_ii, fMax2_ii, fSlH_T, fSlL_T, fSlH_L, fSlL_L, at_0, at_1, dEq_ii, dEq_bb, dEq_tw, dIn_tw, dIn_iT, dIn_iL, evE_chn, evE_meth, chnO_t, chnO_f, evL_meth, evL_mut, evL_chn, evS_unp, evS_fgt, isIntD, isBoolD, isTupleD, isListD, isSeqD, Bool.not_true, Bool.not_false, items1, itemsF, Dt.listOf, decide_true, decide_false, e, it4]
  rw [q1]
  simp only [evS_seq, evS_skip, evS_frz, evS_set, evS_exp, evS_ret, evS_ite, evS_par, evS_putS, evS_putA, evS_for, evT_op, evT_call, evT_var, evT_bl, evT_and, evT_or, evT_not, evE_var, evE_non, evE_bl, evE_int, evE_str, evE_op, evE_and, evE_or, evE_not, evE_ite, evE_tup, evE_lst, fin0, fin1, fin2, fin3, evE_dsp, evE_call, evE_mut, evE_lc, evE_lc2, evE_dc, evL_nil, evL_pk, evL_lnt, evL_var, evL_non, evL_bl, evL_int, evL_str, evL_op, evL_tup, evL_lst, evL_call, evL_lc, evL_lc2, evL_dc, evL_ite, evL_and, evL_or, evL_not, bind_ok, ofE_ok, ofO_some, next_nx, next_ret, rdS_0, rdS_s, Option.isSome_some, if_true, Bool.false_eq_true, if_false, lnts, callO, back, endF, readAll, Option.map_some, Option.bind_some, List.set_cons_zero, List.set_cons_succ, asgT, Dt.truthy, oF_add, oF_sub, oF_neg, oF_eq, oF_ne, oF_lt, oF_gt, oF_le, oF_ge, oF_in, oF_nin, oF_isN, oF_notN, oF_idx, oF_slice, oF_sliceL, oF_sliceH, oF_rev, oF_len, oF_int, oF_min2, oF_max2, oF_list, oF_tuple, oF_sorted, oF_all, oF_any, oF_isInt, oF_isBool, oF_isTuple, oF_isList, oF_isStr, oF_range1, oF_range2, oF_count, oF_index, oF_index3, opR_f, dB_s, fAdd_ii, fSub_ii, fNeg_i, fLen_L, fLen_T, fLen_D, fInt_i, dLt_ii, dGt_ii, dLe_ii, fIdx_L, fIdx_T, fRev_L, fRev_T, fList_L, fList_T, fTuple_L, fTuple_T, fMin2_ii, fMax2_ii, fSlH_T, fSlL_T, fSlH_L, fSlL_L, at_0, at_1, dEq_ii, dEq_bb, dEq_tw, dIn_tw, dIn_iT, dIn_iL, evE_chn, evE_meth, chnO_t, chnO_f, evL_meth, evL_mut, evL_chn, evS_unp, evS_fgt, isIntD, isBoolD, isTupleD, isListD, isSeqD, Bool.not_true, Bool.not_false, items1, itemsF, Dt.listOf, decide_true, decide_false]
end K14
theorem PySem.Challenge.cw_turnabouts_k14_runs_and_shortcuts_judged_holds : PySem.Challenge.rw_turnabouts_k14_runs_and_shortcuts_judged.Holds :=
  K14.holds fun ns h => ⟨[], K14.law_true 20 ns (by omega)⟩
end
