import PyProof.Rows.All
import Wide.All
import OpenK.AllK
import Wide.FinOn
import PyProof.EqAt
import PyProof.EqKinds
import PyProof.TupleCall
import HandS.ForMost
import HandS.Walk
import HandS.Style
import HandS.Defaults
import HandS.Text
import HandS.IsInst
import HandS.Flt
import HandS.Conv
import HandS.SortInts
import HandS.RaiseMore
import KE.KRevSl
import HandS.Iter
import KE.GoesMore
import KE.GoesEnum
import KE.GoesZip
import HandS.More
import KE.KDictPairs
import KE.DataMinMax
import PyProof.ListStr
import PyProof.Rows.RowBridgeK
import PyProof.Rows.RuleB_pow
import PySem.Challenge.RW_everyrowhasit_k12_whole_changes_where_le
import HandS.Ends
import KE.KStateDown
import HandS.WordsExc
import HandS.Head0
import HandS.Head1
import HandS.Head2
import HandS.HeadEnd
import HandS.HeadHook1
import HandS.HeadHook2
import HandS.HeadHook3
import HandS.HeadHook4
/-! ## JDBase -/
set_option Elab.async false
set_option linter.all false
set_option maxRecDepth 100000
set_option maxHeartbeats 2000000
/-! JD: a def's body over plain data. The heap is hidden: slots hold data (PyData), own lists that the def changes, the law's pot. -/
namespace JD
open PySem PySem.Spec PyProof.Rows L2

/-! ### the heap without what may change -/
open Classical in
noncomputable def mask (M : Addr → Prop) (H : Hp) : Hp := fun a => if M a then none else H a
theorem mask_in {M : Addr → Prop} {H : Hp} {a : Addr} (h : M a) : mask M H a = none := by unfold mask; rw [if_pos h]
theorem mask_out {M : Addr → Prop} {H : Hp} {a : Addr} (h : ¬ M a) : mask M H a = H a := by unfold mask; rw [if_neg h]
theorem mask_some {M : Addr → Prop} {H : Hp} {a : Addr} {o : HO} (h : mask M H a = some o) : ¬ M a ∧ H a = some o := by
  by_cases c : M a
  · rw [mask_in c] at h; cases h
  · rw [mask_out c] at h; exact ⟨c, h⟩
theorem mask_same (M : Addr → Prop) (H : Hp) : Same (mask M H) H := fun b o h => (mask_some h).2
/-- less is hidden, and what is not hidden stands -/
theorem mask_mono {M M' : Addr → Prop} {H H' : Hp} (h : ∀ a o, ¬ M a → H a = some o → ¬ M' a ∧ H' a = some o) : Same (mask M H) (mask M' H') := fun b o e => by
  obtain ⟨n, e⟩ := mask_some e
  obtain ⟨n', e'⟩ := h b o n e
  rw [mask_out n']; exact e'

end JD
namespace L2
open PySem PySem.Spec PyProof.Rows
mutual
theorem Dp.up {K : PySem.W.Frag} {H H' : Hp} (s : Same H H') : ∀ (d : PyData) {v : V}, Dp K H v d → Dp K H' v d
  | .none, _, h => by cases h; exact .non
  | .bool b, _, h => by cases h; exact .bl b
  | .int i, _, h => by cases h; exact .int i
  | .str x, _, h => by cases h; exact .str x
  | .list ds, _, h => by
    cases h with
    | lst a b => exact .lst (s.seq a) (DpAll.up s ds b)
  | .tuple ds, _, h => by
    cases h with
    | tup a b => exact .tup (by
        rcases a with (a | ⟨o, a⟩) | a
        · exact .inl (.inl (s _ _ a))
        · exact .inl (.inr ⟨o, s _ _ a⟩)
        · exact .inr a) (DpAll.up s ds b)
  | .dict _, _, h => by cases h
theorem DpAll.up {K : PySem.W.Frag} {H H' : Hp} (s : Same H H') : ∀ (ds : List PyData) {vs : List V}, DpAll K H vs ds → DpAll K H' vs ds
  | [], _, h => by cases h; exact .nil
  | d :: ds, _, h => by
    cases h with
    | cons a b => exact .cons (Dp.up s d a) (DpAll.up s ds b)
end
theorem DpAll.len {K : PySem.W.Frag} {H : Hp} : ∀ {ds : List PyData} {vs : List V}, DpAll K H vs ds → vs.length = ds.length
  | [], _, h => by cases h; rfl
  | d :: ds, _, h => by
    cases h with
    | cons a b => rw [List.length_cons, List.length_cons, DpAll.len b]
theorem DpAll.get {K : PySem.W.Frag} {H : Hp} : ∀ {ds : List PyData} {vs : List V} {i : Nat} {d : PyData}, DpAll K H vs ds → ds[i]? = some d → ∃ v, vs[i]? = some v ∧ Dp K H v d
  | [], _, _, _, h, e => by simp at e
  | _ :: _, _, 0, _, h, e => by
    cases h with
    | cons a b => simp at e; subst e; exact ⟨_, rfl, a⟩
  | _ :: ds, _, i + 1, _, h, e => by
    cases h with
    | cons a b => simpa using DpAll.get (i := i) b (by simpa using e)
theorem DpAll.getV {K : PySem.W.Frag} {H : Hp} : ∀ {ds : List PyData} {vs : List V} {i : Nat} {v : V}, DpAll K H vs ds → vs[i]? = some v → ∃ d, ds[i]? = some d ∧ Dp K H v d
  | [], _, _, _, h, e => by cases h; simp at e
  | _ :: _, _, 0, _, h, e => by
    cases h with
    | cons a b => simp at e; subst e; exact ⟨_, rfl, a⟩
  | _ :: ds, _, i + 1, _, h, e => by
    cases h with
    | cons a b => simpa using DpAll.getV (i := i) b (by simpa using e)
theorem DpAll.app {K : PySem.W.Frag} {H : Hp} : ∀ {ds es : List PyData} {vs ws : List V}, DpAll K H vs ds → DpAll K H ws es → DpAll K H (vs ++ ws) (ds ++ es)
  | [], _, _, _, h, g => by cases h; exact g
  | d :: ds, _, _, _, h, g => by
    cases h with
    | cons a b => exact .cons a (DpAll.app b g)
theorem DpAll.one {K : PySem.W.Frag} {H : Hp} {v : V} {d : PyData} (h : Dp K H v d) : DpAll K H [v] [d] := .cons h .nil
theorem DpAll.set {K : PySem.W.Frag} {H : Hp} {v : V} {d : PyData} (g : Dp K H v d) : ∀ {ds : List PyData} {vs : List V} (i : Nat), DpAll K H vs ds → DpAll K H (vs.set i v) (ds.set i d)
  | [], _, _, h => by cases h; exact .nil
  | _ :: _, _, 0, h => by
    cases h with
    | cons a b => exact .cons g b
  | _ :: ds, _, i + 1, h => by
    cases h with
    | cons a b => exact .cons a (DpAll.set g i b)
theorem DpAll.drop {K : PySem.W.Frag} {H : Hp} : ∀ {ds : List PyData} {vs : List V} (i : Nat), DpAll K H vs ds → DpAll K H (vs.drop i) (ds.drop i)
  | _, _, 0, h => h
  | [], _, i + 1, h => by cases h; exact .nil
  | _ :: ds, _, i + 1, h => by
    cases h with
    | cons a b => exact DpAll.drop i b
theorem DpAll.take {K : PySem.W.Frag} {H : Hp} : ∀ {ds : List PyData} {vs : List V} (i : Nat), DpAll K H vs ds → DpAll K H (vs.take i) (ds.take i)
  | _, _, 0, h => by simpa using DpAll.nil
  | [], _, i + 1, h => by cases h; exact .nil
  | _ :: ds, _, i + 1, h => by
    cases h with
    | cons a b => exact .cons a (DpAll.take i b)
theorem DpAll.rev {K : PySem.W.Frag} {H : Hp} : ∀ {ds : List PyData} {vs : List V}, DpAll K H vs ds → DpAll K H vs.reverse ds.reverse
  | [], _, h => by cases h; exact .nil
  | d :: ds, _, h => by
    cases h with
    | cons a b => rw [List.reverse_cons, List.reverse_cons]; exact DpAll.app (DpAll.rev b) (.one a)
theorem DpAll.erase {K : PySem.W.Frag} {H : Hp} : ∀ {ds : List PyData} {vs : List V} (i : Nat), DpAll K H vs ds → DpAll K H (vs.eraseIdx i) (ds.eraseIdx i)
  | [], _, _, h => by cases h; exact .nil
  | _ :: _, _, 0, h => by
    cases h with
    | cons a b => exact b
  | _ :: ds, _, i + 1, h => by
    cases h with
    | cons a b => exact .cons a (DpAll.erase i b)
/-- whole numbers, texts -/
theorem DpAll.ints {K : PySem.W.Frag} {H : Hp} : ∀ {ns : List Int} {vs : List V}, DpAll K H vs (ns.map .int) → vs = ns.map V.int
  | [], _, h => by cases h; rfl
  | n :: ns, _, h => by
    cases h with
    | cons a b => cases a; rw [List.map_cons, DpAll.ints b]
theorem DpAll.ofInts {K : PySem.W.Frag} {H : Hp} : ∀ (ns : List Int), DpAll K H (ns.map V.int) (ns.map .int)
  | [] => .nil
  | n :: ns => .cons (.int n) (DpAll.ofInts ns)
theorem DpAll.strs {K : PySem.W.Frag} {H : Hp} : ∀ {ns : List Str} {vs : List V}, DpAll K H vs (ns.map .str) → vs = ns.map V.str
  | [], _, h => by cases h; rfl
  | n :: ns, _, h => by
    cases h with
    | cons a b => cases a; rw [List.map_cons, DpAll.strs b]
theorem DpAll.ofStrs {K : PySem.W.Frag} {H : Hp} : ∀ (ns : List Str), DpAll K H (ns.map V.str) (ns.map .str)
  | [] => .nil
  | n :: ns => .cons (.str n) (DpAll.ofStrs ns)
theorem DpAll.bls {K : PySem.W.Frag} {H : Hp} : ∀ {ns : List Bool} {vs : List V}, DpAll K H vs (ns.map .bool) → vs = ns.map V.bl
  | [], _, h => by cases h; rfl
  | n :: ns, _, h => by
    cases h with
    | cons a b => cases a; rw [List.map_cons, DpAll.bls b]
theorem DpAll.ofBls {K : PySem.W.Frag} {H : Hp} : ∀ (ns : List Bool), DpAll K H (ns.map V.bl) (ns.map .bool)
  | [] => .nil
  | n :: ns => .cons (.bl n) (DpAll.ofBls ns)

end L2
namespace JD
open PySem PySem.Spec PyProof.Rows L2
/-! ### the pot, the slots -/
structure Pot where
  a : Int
  b : Int
  c : Int
def Pot.vs (π : Pot) : List V := [.int π.a, .int π.b, .int π.c]
/-- what a slot holds: nothing; data; a list (its items data) that the def itself made and changes; the law's pot; a dict that the def made -/
inductive Sl where
  | un
  | val (d : PyData)
  | own (ds : List PyData)
  | pot
  | dic (kvs : List (Key × V))
def isOwn : Sl → Prop
  | .own _ => True
  | .dic _ => True
  | _ => False
theorem nU : ¬ isOwn .un := fun z => z
theorem nV {d : PyData} : ¬ isOwn (.val d) := fun z => z
def ownAt (ρ : List Sl) (i : Nat) : Prop := ∃ s, ρ[i]? = some s ∧ isOwn s

def Ext (P : Option Addr) (H H' : Hp) : Prop := ∀ b o, P ≠ some b → H b = some o → H' b = some o
theorem Ext.refl {P : Option Addr} (H : Hp) : Ext P H H := fun _ _ _ h => h
theorem Ext.trans {P : Option Addr} {H H1 H2 : Hp} (a : Ext P H H1) (b : Ext P H1 H2) : Ext P H H2 := fun c o n h => b c o n (a c o n h)
theorem Ext.of {P : Option Addr} {H H1 : Hp} (a : Same H H1) : Ext P H H1 := fun c o _ h => a c o h
theorem Ext.new {P : Option Addr} {H : Hp} {p : Addr} {o : HO} (h : H p = none) : Ext P H (upd H p o) := fun a u _ e => by
  rw [upd_ne (ne_of_none e h)]; exact e
def potAt (P : Option Addr) (π : Pot) (H : Hp) : Prop := ∀ p, P = some p → H p = some (.lst π.vs)
theorem potAt.same {P : Option Addr} {π : Pot} {H H' : Hp} (h : potAt P π H) (s : Same H H') : potAt P π H' := fun p e => s _ _ (h p e)

structure Wd where
  P : Option Addr
  L0 : Addr → Prop
  H0 : Hp
  ad : Nat → Addr
def Wd.M (w : Wd) (ρ : List Sl) (a : Addr) : Prop := w.L0 a ∨ ∃ i, ownAt ρ i ∧ a = w.ad i

structure Rel (K : PySem.W.Frag) (w : Wd) (ρ : List Sl) (π : Pot) (H : Hp) (σ : L2.St) : Prop where
  len : σ.length = ρ.length
  potL : ∀ p, w.P = some p → w.L0 p
  pot : potAt w.P π H
  ext : Ext w.P w.H0 H
  domL : ∀ a, w.L0 a → H a ≠ none
  disj : ∀ i, ownAt ρ i → ¬ w.L0 (w.ad i)
  own0 : ∀ i, ownAt ρ i → w.H0 (w.ad i) = none
  inj : ∀ i j, ownAt ρ i → ownAt ρ j → w.ad i = w.ad j → i = j
  vals : ∀ (i : Nat) d, ρ[i]? = some (.val d) → ∃ v, σ[i]? = some (some v) ∧ Dp K (mask (w.M ρ) H) v d
  owns : ∀ (i : Nat) ds, ρ[i]? = some (.own ds) → ∃ xs, σ[i]? = some (some (.ref (w.ad i))) ∧ H (w.ad i) = some (.lst xs) ∧ DpAll K (mask (w.M ρ) H) xs ds
  dics : ∀ (i : Nat) kvs, ρ[i]? = some (.dic kvs) → σ[i]? = some (some (.ref (w.ad i))) ∧ H (w.ad i) = some (.dK kvs)
  pots : ∀ (i : Nat), ρ[i]? = some .pot → ∃ p, w.P = some p ∧ σ[i]? = some (some (.ref p))

section
variable {K : PySem.W.Frag} {w : Wd} {ρ : List Sl} {π π' : Pot} {H H' : Hp} {σ : L2.St}
theorem Rel.domH (R : Rel K w ρ π H σ) {a : Addr} (h : w.M ρ a) : H a ≠ none := by
  rcases h with h | ⟨i, ⟨s, hs, ho⟩, e⟩
  · exact R.domL a h
  · subst e
    cases s with
    | own ds => obtain ⟨xs, _, h2, _⟩ := R.owns i ds hs; rw [h2]; exact nofun
    | dic kvs => rw [(R.dics i kvs hs).2]; exact nofun
    | un => exact ho.elim
    | val d => exact ho.elim
    | pot => exact ho.elim
theorem Rel.fresh (R : Rel K w ρ π H σ) {a : Addr} (h : H a = none) : ¬ w.M ρ a := fun m => R.domH m h
theorem Rel.potM (R : Rel K w ρ π H σ) {p : Addr} (h : w.P = some p) : w.M ρ p := .inl (R.potL p h)
theorem Rel.maskUp (R : Rel K w ρ π H σ) (e : Ext w.P H H') : Same (mask (w.M ρ) H) (mask (w.M ρ) H') :=
  mask_mono fun a o n h => ⟨n, e a o (fun z => n (R.potM z)) h⟩
/-- behind an expression: nothing but the pot has changed, new things are there -/
theorem Rel.step (R : Rel K w ρ π H σ) (e : Ext w.P H H') (hp : potAt w.P π' H') : Rel K w ρ π' H' σ := by
  have nP : ∀ i, ownAt ρ i → w.P ≠ some (w.ad i) := fun i h z => R.disj i h (R.potL _ z)
  have dm : ∀ a, w.L0 a → H' a ≠ none := fun a h => by
    by_cases c : w.P = some a
    · rw [hp a c]; exact nofun
    · cases q : H a with
      | none => exact absurd q (R.domL a h)
      | some o => rw [e a o c q]; exact nofun
  refine ⟨R.len, R.potL, hp, R.ext.trans e, dm, R.disj, R.own0, R.inj, fun i d h => ?_, fun i ds h => ?_, fun i kvs h => ?_, R.pots⟩
  · obtain ⟨v, h1, h2⟩ := R.vals i d h
    exact ⟨v, h1, Dp.up (R.maskUp e) _ h2⟩
  · obtain ⟨xs, h1, h2, h3⟩ := R.owns i ds h
    exact ⟨xs, h1, e _ _ (nP i ⟨_, h, trivial⟩) h2, DpAll.up (R.maskUp e) _ h3⟩
  · obtain ⟨h1, h2⟩ := R.dics i kvs h
    exact ⟨h1, e _ _ (nP i ⟨_, h, trivial⟩) h2⟩
theorem ownAt.set_ne {i j : Nat} {s : Sl} (h : ownAt ρ j) (n : i ≠ j) : ownAt (ρ.set i s) j := by
  obtain ⟨t, h1, h2⟩ := h
  exact ⟨t, by rw [List.getElem?_set_ne n]; exact h1, h2⟩
theorem ownAt.of_set_ne {i j : Nat} {s : Sl} (h : ownAt (ρ.set i s) j) (n : i ≠ j) : ownAt ρ j := by
  obtain ⟨t, h1, h2⟩ := h
  exact ⟨t, by rw [List.getElem?_set_ne n] at h1; exact h1, h2⟩
theorem get_set_some {i : Nat} {s t : Sl} (h : (ρ.set i s)[i]? = some t) : t = s := by
  by_cases hi : i < ρ.length
  · rw [List.getElem?_set_self hi] at h; exact (Option.some.inj h).symm
  · rw [List.getElem?_eq_none (by rw [List.length_set]; omega)] at h; cases h
theorem not_own_set {i : Nat} {s : Sl} (hs : ¬ isOwn s) : ¬ ownAt (ρ.set i s) i := fun ⟨t, h1, h2⟩ => by
  rw [get_set_some h1] at h2; exact hs h2
/-- slot i gets a thing that is no own list: less is hidden -/
theorem M_set_le {i : Nat} {s : Sl} (hs : ¬ isOwn s) {a : Addr} (h : w.M (ρ.set i s) a) : w.M ρ a := by
  rcases h with h | ⟨j, hj, e⟩
  · exact .inl h
  · by_cases c : i = j
    · subst c; exact absurd hj (not_own_set hs)
    · exact .inr ⟨j, hj.of_set_ne c, e⟩
/-- slot i gets data -/
theorem Rel.set (R : Rel K w ρ π H σ) {i : Nat} {v : V} {d : PyData} (hd : Dp K (mask (w.M ρ) H) v d) : Rel K w (ρ.set i (.val d)) π H (σ.set i (some v)) := by
  have up : Same (mask (w.M ρ) H) (mask (w.M (ρ.set i (.val d))) H) := mask_mono fun a o n h => ⟨fun m => n (M_set_le nV m), h⟩
  have back : ∀ j, ownAt (ρ.set i (.val d)) j → i ≠ j ∧ ownAt ρ j := fun j h => by
    by_cases c : i = j
    · subst c; exact absurd h (not_own_set nV)
    · exact ⟨c, h.of_set_ne c⟩
  have get : ∀ {j : Nat} {s : Sl}, (ρ.set i (.val d))[j]? = some s → (i = j ∧ s = .val d) ∨ (i ≠ j ∧ ρ[j]? = some s) := fun {j s} h => by
    by_cases c : i = j
    · subst c; exact .inl ⟨rfl, get_set_some h⟩
    · rw [List.getElem?_set_ne c] at h; exact .inr ⟨c, h⟩
  refine ⟨by rw [List.length_set, List.length_set]; exact R.len, R.potL, R.pot, R.ext, R.domL, fun j h => R.disj j (back j h).2, fun j h => R.own0 j (back j h).2, fun j k hj hk => R.inj j k (back j hj).2 (back k hk).2, fun j e h => ?_, fun j ds h => ?_, fun j kvs h => ?_, fun j h => ?_⟩
  · rcases get h with ⟨c, q⟩ | ⟨c, q⟩
    · subst c
      cases q
      have hi : i < σ.length := by
        have := List.getElem?_eq_some_iff.mp h
        obtain ⟨z, _⟩ := this
        rw [List.length_set] at z
        rw [R.len]; exact z
      exact ⟨v, List.getElem?_set_self hi, Dp.up up _ hd⟩
    · obtain ⟨x, h1, h2⟩ := R.vals j e q
      exact ⟨x, by rw [List.getElem?_set_ne c]; exact h1, Dp.up up _ h2⟩
  · rcases get h with ⟨c, q⟩ | ⟨c, q⟩
    · cases q
    · obtain ⟨xs, h1, h2, h3⟩ := R.owns j ds q
      exact ⟨xs, by rw [List.getElem?_set_ne c]; exact h1, h2, DpAll.up up _ h3⟩
  · rcases get h with ⟨c, q⟩ | ⟨c, q⟩
    · cases q
    · obtain ⟨h1, h2⟩ := R.dics j kvs q
      exact ⟨by rw [List.getElem?_set_ne c]; exact h1, h2⟩
  · rcases get h with ⟨c, q⟩ | ⟨c, q⟩
    · cases q
    · obtain ⟨p, h1, h2⟩ := R.pots j q
      exact ⟨p, h1, by rw [List.getElem?_set_ne c]; exact h2⟩
/-- slot i gets a thing of no value for us (forgotten) -/
theorem Rel.wipe1 (R : Rel K w ρ π H σ) {i : Nat} {x : Option V} : Rel K w (ρ.set i .un) π H (σ.set i x) := by
  have up : Same (mask (w.M ρ) H) (mask (w.M (ρ.set i .un)) H) := mask_mono fun a o n h => ⟨fun m => n (M_set_le nU m), h⟩
  have back : ∀ j, ownAt (ρ.set i .un) j → i ≠ j ∧ ownAt ρ j := fun j h => by
    by_cases c : i = j
    · subst c; exact absurd h (not_own_set nU)
    · exact ⟨c, h.of_set_ne c⟩
  have get : ∀ {j : Nat} {s : Sl}, (ρ.set i .un)[j]? = some s → (i = j ∧ s = .un) ∨ (i ≠ j ∧ ρ[j]? = some s) := fun {j s} h => by
    by_cases c : i = j
    · subst c; exact .inl ⟨rfl, get_set_some h⟩
    · rw [List.getElem?_set_ne c] at h; exact .inr ⟨c, h⟩
  refine ⟨by rw [List.length_set, List.length_set]; exact R.len, R.potL, R.pot, R.ext, R.domL, fun j h => R.disj j (back j h).2, fun j h => R.own0 j (back j h).2, fun j k hj hk => R.inj j k (back j hj).2 (back k hk).2, fun j e h => ?_, fun j ds h => ?_, fun j kvs h => ?_, fun j h => ?_⟩
  · rcases get h with ⟨c, q⟩ | ⟨c, q⟩
    · cases q
    · obtain ⟨x, h1, h2⟩ := R.vals j e q
      exact ⟨x, by rw [List.getElem?_set_ne c]; exact h1, Dp.up up _ h2⟩
  · rcases get h with ⟨c, q⟩ | ⟨c, q⟩
    · cases q
    · obtain ⟨xs, h1, h2, h3⟩ := R.owns j ds q
      exact ⟨xs, by rw [List.getElem?_set_ne c]; exact h1, h2, DpAll.up up _ h3⟩
  · rcases get h with ⟨c, q⟩ | ⟨c, q⟩
    · cases q
    · obtain ⟨h1, h2⟩ := R.dics j kvs q
      exact ⟨by rw [List.getElem?_set_ne c]; exact h1, h2⟩
  · rcases get h with ⟨c, q⟩ | ⟨c, q⟩
    · cases q
    · obtain ⟨p, h1, h2⟩ := R.pots j q
      exact ⟨p, h1, by rw [List.getElem?_set_ne c]; exact h2⟩
end
end JD
namespace JD
open PySem PySem.Spec PyProof.Rows L2
section
variable {K : PySem.W.Frag} {w : Wd} {ρ : List Sl} {π π' : Pot} {H H' : Hp} {σ : L2.St}
theorem Rel.ne_ad (R : Rel K w ρ π H σ) {i : Nat} (h : ownAt ρ i) {a : Addr} {o : HO} (e : mask (w.M ρ) H a = some o) : a ≠ w.ad i := fun z =>
  (mask_some e).1 (.inr ⟨i, h, z⟩)
/-- the address of slot i's own thing changes in the world -/
def Wd.at (w : Wd) (i : Nat) (p : Addr) : Wd := { w with ad := fun j => if j = i then p else w.ad j }
theorem Wd.at_self {i : Nat} {p : Addr} : (w.at i p).ad i = p := if_pos rfl
theorem Wd.at_ne {i j : Nat} {p : Addr} (h : j ≠ i) : (w.at i p).ad j = w.ad j := if_neg h
theorem M_at {i : Nat} {p : Addr} {s : Sl} (hi : i < ρ.length) (hs : isOwn s) {a : Addr} : (w.at i p).M (ρ.set i s) a ↔ (a = p ∨ w.M (ρ.set i .un) a) := by
  constructor
  · rintro (h | ⟨j, hj, e⟩)
    · exact .inr (.inl h)
    · by_cases c : j = i
      · subst c; rw [Wd.at_self] at e; exact .inl e
      · rw [Wd.at_ne c] at e
        exact .inr (.inr ⟨j, (hj.of_set_ne (Ne.symm c)).set_ne (Ne.symm c), e⟩)
  · rintro (h | h | ⟨j, hj, e⟩)
    · exact .inr ⟨i, ⟨s, List.getElem?_set_self hi, hs⟩, by rw [Wd.at_self]; exact h⟩
    · exact .inl h
    · have c : j ≠ i := fun z => by subst z; exact not_own_set nU hj
      exact .inr ⟨j, (hj.of_set_ne (Ne.symm c)).set_ne (Ne.symm c), by rw [Wd.at_ne c]; exact e⟩
/-- slot i gets a new own thing at p -/
theorem Rel.setOwn (R : Rel K w ρ π H σ) {i : Nat} (hi : i < ρ.length) {p : Addr} {s : Sl} (hs : isOwn s) (h0 : w.H0 p = none) (hn : ¬ w.M (ρ.set i .un) p) (hv : ∀ a o, mask (w.M (ρ.set i .un)) H a = some o → a = p → False)
    (ho : ∀ ds, s = .own ds → ∃ xs, H p = some (.lst xs) ∧ DpAll K (mask ((w.at i p).M (ρ.set i s)) H) xs ds) (hd : ∀ kvs, s = .dic kvs → H p = some (.dK kvs)) :
    Rel K (w.at i p) (ρ.set i s) π H (σ.set i (some (.ref p))) := by
  have W := R.wipe1 (i := i) (x := some (.ref p))
  have up : Same (mask (w.M (ρ.set i .un)) H) (mask ((w.at i p).M (ρ.set i s)) H) := fun b o e => by
    have q := mask_some e
    rw [mask_out (fun m => by
      rcases (M_at hi hs).mp m with z | z
      · exact hv b o e z
      · exact q.1 z)]
    exact q.2
  have get : ∀ {j : Nat} {t : Sl}, (ρ.set i s)[j]? = some t → (i = j ∧ t = s) ∨ (i ≠ j ∧ (ρ.set i .un)[j]? = some t) := fun {j t} h => by
    by_cases c : i = j
    · subst c; exact .inl ⟨rfl, get_set_some h⟩
    · rw [List.getElem?_set_ne c] at h
      exact .inr ⟨c, by rw [List.getElem?_set_ne c]; exact h⟩
  have own : ∀ {j : Nat}, i ≠ j → ownAt (ρ.set i s) j → ownAt (ρ.set i .un) j := fun c h => (h.of_set_ne c).set_ne c
  have hiσ : i < σ.length := by rw [R.len]; exact hi
  refine ⟨by rw [List.length_set, List.length_set]; exact R.len, R.potL, R.pot, R.ext, R.domL, fun j h => ?_, fun j h => ?_, fun j k hj hk e => ?_, fun j d h => ?_, fun j ds h => ?_, fun j kvs h => ?_, fun j h => ?_⟩
  · by_cases c : i = j
    · subst c; rw [Wd.at_self]; exact fun z => hn (.inl z)
    · rw [Wd.at_ne (Ne.symm c)]; exact W.disj j (own c h)
  · by_cases c : i = j
    · subst c; rw [Wd.at_self]; exact h0
    · rw [Wd.at_ne (Ne.symm c)]; exact W.own0 j (own c h)
  · by_cases c : i = j
    · by_cases c' : i = k
      · exact c.symm.trans c'
      · rw [← c, Wd.at_self, Wd.at_ne (Ne.symm c')] at e
        exact absurd (.inr ⟨k, own c' hk, e⟩) hn
    · by_cases c' : i = k
      · rw [← c', Wd.at_self, Wd.at_ne (Ne.symm c)] at e
        exact absurd (.inr ⟨j, own c hj, e.symm⟩) hn
      · rw [Wd.at_ne (Ne.symm c), Wd.at_ne (Ne.symm c')] at e
        exact W.inj j k (own c hj) (own c' hk) e
  · rcases get h with ⟨c, q⟩ | ⟨c, q⟩
    · subst q; exact hs.elim
    · obtain ⟨v, h1, h2⟩ := W.vals j d q
      exact ⟨v, h1, Dp.up up _ h2⟩
  · rcases get h with ⟨c, q⟩ | ⟨c, q⟩
    · subst c
      obtain ⟨xs, h1, h2⟩ := ho ds q.symm
      exact ⟨xs, by rw [Wd.at_self]; exact List.getElem?_set_self hiσ, by rw [Wd.at_self]; exact h1, h2⟩
    · obtain ⟨xs, h1, h2, h3⟩ := W.owns j ds q
      exact ⟨xs, by rw [Wd.at_ne (Ne.symm c)]; exact h1, by rw [Wd.at_ne (Ne.symm c)]; exact h2, DpAll.up up _ h3⟩
  · rcases get h with ⟨c, q⟩ | ⟨c, q⟩
    · subst c
      exact ⟨by rw [Wd.at_self]; exact List.getElem?_set_self hiσ, by rw [Wd.at_self]; exact hd kvs q.symm⟩
    · obtain ⟨h1, h2⟩ := W.dics j kvs q
      exact ⟨by rw [Wd.at_ne (Ne.symm c)]; exact h1, by rw [Wd.at_ne (Ne.symm c)]; exact h2⟩
  · rcases get h with ⟨c, q⟩ | ⟨c, q⟩
    · subst q; exact hs.elim
    · exact W.pots j q
/-- an own list is changed no more: it is data -/
theorem Rel.freeze (R : Rel K w ρ π H σ) {i : Nat} {ds : List PyData} (h : ρ[i]? = some (.own ds)) : Rel K w (ρ.set i (.val (.list ds))) π H σ := by
  obtain ⟨xs, h1, h2, h3⟩ := R.owns i ds h
  have hi : i < ρ.length := (List.getElem?_eq_some_iff.mp h).1
  have hiσ : i < σ.length := by rw [R.len]; exact hi
  have up : Same (mask (w.M ρ) H) (mask (w.M (ρ.set i (.val (.list ds)))) H) := mask_mono fun a o n h => ⟨fun m => n (M_set_le nV m), h⟩
  have back : ∀ j, ownAt (ρ.set i (.val (.list ds))) j → i ≠ j ∧ ownAt ρ j := fun j h => by
    by_cases c : i = j
    · subst c; exact absurd h (not_own_set nV)
    · exact ⟨c, h.of_set_ne c⟩
  have nm : ¬ w.M (ρ.set i (.val (.list ds))) (w.ad i) := fun m => by
    rcases m with m | ⟨j, hj, e⟩
    · exact R.disj i ⟨_, h, trivial⟩ m
    · obtain ⟨c, hj⟩ := back j hj
      exact c (R.inj i j ⟨_, h, trivial⟩ hj e)
  have get : ∀ {j : Nat} {s : Sl}, (ρ.set i (.val (.list ds)))[j]? = some s → (i = j ∧ s = .val (.list ds)) ∨ (i ≠ j ∧ ρ[j]? = some s) := fun {j s} h => by
    by_cases c : i = j
    · subst c; exact .inl ⟨rfl, get_set_some h⟩
    · rw [List.getElem?_set_ne c] at h; exact .inr ⟨c, h⟩
  refine ⟨by rw [List.length_set]; exact R.len, R.potL, R.pot, R.ext, R.domL, fun j h => R.disj j (back j h).2, fun j h => R.own0 j (back j h).2, fun j k hj hk => R.inj j k (back j hj).2 (back k hk).2, fun j e h => ?_, fun j ds h => ?_, fun j kvs h => ?_, fun j h => ?_⟩
  · rcases get h with ⟨c, q⟩ | ⟨c, q⟩
    · subst c
      cases q
      exact ⟨_, h1, .lst (.inl (.inl (by rw [mask_out nm]; exact h2))) (DpAll.up up _ h3)⟩
    · obtain ⟨x, h1, h2⟩ := R.vals j e q
      exact ⟨x, h1, Dp.up up _ h2⟩
  · rcases get h with ⟨c, q⟩ | ⟨c, q⟩
    · cases q
    · obtain ⟨xs, h1, h2, h3⟩ := R.owns j ds q
      exact ⟨xs, h1, h2, DpAll.up up _ h3⟩
  · rcases get h with ⟨c, q⟩ | ⟨c, q⟩
    · cases q
    · exact R.dics j kvs q
  · rcases get h with ⟨c, q⟩ | ⟨c, q⟩
    · cases q
    · exact R.pots j q
/-- the own list of slot i is changed -/
theorem Rel.mut (R : Rel K w ρ π H σ) {i : Nat} {ds es : List PyData} {ys : List V} (h : ρ[i]? = some (.own ds)) (hy : DpAll K (mask (w.M ρ) H) ys es) : Rel K w (ρ.set i (.own es)) π (upd H (w.ad i) (.lst ys)) σ := by
  have hO : ownAt ρ i := ⟨_, h, trivial⟩
  have hi : i < ρ.length := (List.getElem?_eq_some_iff.mp h).1
  have same : ∀ j, ownAt (ρ.set i (.own es)) j ↔ ownAt ρ j := fun j => by
    by_cases c : i = j
    · subst c; exact ⟨fun _ => hO, fun _ => ⟨_, List.getElem?_set_self hi, trivial⟩⟩
    · exact ⟨fun z => z.of_set_ne c, fun z => z.set_ne c⟩
  have mm : ∀ a, w.M (ρ.set i (.own es)) a ↔ w.M ρ a := fun a => by
    constructor
    · rintro (z | ⟨j, hj, e⟩)
      · exact .inl z
      · exact .inr ⟨j, (same j).mp hj, e⟩
    · rintro (z | ⟨j, hj, e⟩)
      · exact .inl z
      · exact .inr ⟨j, (same j).mpr hj, e⟩
  have up : Same (mask (w.M ρ) H) (mask (w.M (ρ.set i (.own es))) (upd H (w.ad i) (.lst ys))) := fun b o e => by
    have q := mask_some e
    rw [mask_out (fun z => q.1 ((mm b).mp z)), upd_ne (R.ne_ad hO e)]
    exact q.2
  have nP : w.P ≠ some (w.ad i) := fun z => R.disj i hO (R.potL _ z)
  have get : ∀ {j : Nat} {s : Sl}, (ρ.set i (.own es))[j]? = some s → (i = j ∧ s = .own es) ∨ (i ≠ j ∧ ρ[j]? = some s) := fun {j s} h => by
    by_cases c : i = j
    · subst c; exact .inl ⟨rfl, get_set_some h⟩
    · rw [List.getElem?_set_ne c] at h; exact .inr ⟨c, h⟩
  have nad : ∀ {j : Nat}, i ≠ j → ownAt ρ j → w.ad j ≠ w.ad i := fun c hj e => c (R.inj _ _ hO hj e.symm)
  refine ⟨by rw [List.length_set]; exact R.len, R.potL, fun p e => ?_, fun b o n e => ?_, fun a z => ?_, fun j z => R.disj j ((same j).mp z), fun j z => R.own0 j ((same j).mp z), fun j k hj hk => R.inj j k ((same j).mp hj) ((same k).mp hk), fun j e z => ?_, fun j ds z => ?_, fun j kvs z => ?_, fun j z => ?_⟩
  · rw [upd_ne (fun z => nP (by rw [e, z]))]; exact R.pot p e
  · rw [upd_ne (fun z => by rw [z, R.own0 i hO] at e; cases e)]; exact R.ext b o n e
  · by_cases c : a = w.ad i
    · rw [c, upd_same]; exact nofun
    · rw [upd_ne c]; exact R.domL a z
  · rcases get z with ⟨c, q⟩ | ⟨c, q⟩
    · cases q
    · obtain ⟨x, h1, h2⟩ := R.vals j e q
      exact ⟨x, h1, Dp.up up _ h2⟩
  · rcases get z with ⟨c, q⟩ | ⟨c, q⟩
    · subst c
      cases q
      obtain ⟨xs, h1, _, _⟩ := R.owns i _ h
      exact ⟨ys, h1, upd_same, DpAll.up up _ hy⟩
    · obtain ⟨xs, h1, h2, h3⟩ := R.owns j ds q
      exact ⟨xs, h1, by rw [upd_ne (nad c ⟨_, q, trivial⟩)]; exact h2, DpAll.up up _ h3⟩
  · rcases get z with ⟨c, q⟩ | ⟨c, q⟩
    · cases q
    · obtain ⟨h1, h2⟩ := R.dics j kvs q
      exact ⟨h1, by rw [upd_ne (nad c ⟨_, q, trivial⟩)]; exact h2⟩
  · rcases get z with ⟨c, q⟩ | ⟨c, q⟩
    · cases q
    · exact R.pots j q
/-- what stands now, but the own things, is told as standing -/
noncomputable def Wd.here (w : Wd) (ρ : List Sl) (H : Hp) : Wd := ⟨w.P, w.L0, mask (fun a => ∃ i, ownAt ρ i ∧ a = w.ad i) H, w.ad⟩
theorem here_eq : (w.here ρ H).H0 = mask (fun a => ∃ i, ownAt ρ i ∧ a = w.ad i) H := rfl
theorem Rel.here (R : Rel K w ρ π H σ) : Rel K (w.here ρ H) ρ π H σ where
  len := R.len
  potL := R.potL
  pot := R.pot
  ext := fun b o _ e => by
    rw [here_eq] at e
    exact (mask_some e).2
  domL := R.domL
  disj := R.disj
  own0 := fun i h => by
    rw [here_eq]
    exact mask_in ⟨i, h, rfl⟩
  inj := R.inj
  vals := R.vals
  owns := R.owns
  dics := R.dics
  pots := R.pots
theorem here_H0 (R : Rel K w ρ π H σ) : Ext w.P w.H0 (w.here ρ H).H0 := fun b o n e => by
  rw [here_eq, mask_out (fun ⟨i, hi, z⟩ => by rw [z, R.own0 i hi] at e; cases e)]
  exact R.ext b o n e
/-- .. and back -/
theorem Rel.back (R : Rel K w ρ π H σ) {ad : Nat → Addr} {ρ' : List Sl} {π' : Pot} {H' : Hp} {σ' : L2.St} (R' : Rel K { w.here ρ H with ad := ad } ρ' π' H' σ') : Rel K { w with ad := ad } ρ' π' H' σ' where
  len := R'.len
  potL := R.potL
  pot := R'.pot
  ext := fun b o n e => R'.ext b o n (here_H0 R b o n e)
  domL := R'.domL
  disj := R'.disj
  own0 := fun i h => by
    cases e : w.H0 (ad i) with
    | none => rfl
    | some o =>
      have z := R'.own0 i h
      by_cases c : w.P = some (ad i)
      · exact absurd (R.potL _ c) (R'.disj i h)
      · have q := here_H0 R _ o c e
        have z' : (w.here ρ H).H0 (ad i) = none := z
        rw [z'] at q; cases q
  inj := R'.inj
  vals := R'.vals
  owns := R'.owns
  dics := R'.dics
  pots := R'.pots
end

/-! ### what an expression, a test, arguments come to -/
section
variable (K : PySem.W.Frag)
def EvD (te : TE) (ρ : List Sl) (π : Pot) (d : PyData) (π' : Pot) : Prop := ∀ (w : Wd) (H : Hp) (σ : L2.St), Rel K w ρ π H σ → ∀ Q : VK,
  (∀ v H', Ext w.P H H' → potAt w.P π' H' → Dp K (mask (w.M ρ) H') v d → Q v H') → te σ H Q
def EvT (tt : TT) (ρ : List Sl) (π : Pot) (b : Bool) (π' : Pot) : Prop := ∀ (w : Wd) (H : Hp) (σ : L2.St), Rel K w ρ π H σ → ∀ Q : Bool → Hp → Prop,
  (∀ H', Ext w.P H H' → potAt w.P π' H' → Q b H') → tt σ H Q
/-- a new list -/
def EvL (te : TE) (ρ : List Sl) (π : Pot) (ds : List PyData) (π' : Pot) : Prop := ∀ (w : Wd) (H : Hp) (σ : L2.St), Rel K w ρ π H σ → ∀ Q : VK,
  (∀ p xs H', Ext w.P H H' → potAt w.P π' H' → H p = none → H' p = some (.lst xs) → DpAll K (mask (fun a => w.M ρ a ∨ a = p) H') xs ds → Q (.ref p) H') → te σ H Q
/-- an argument: data, or the pot -/
inductive Ag where
  | d (x : PyData)
  | pot
inductive AgAll (P : Option Addr) (H : Hp) : List V → List Ag → Prop
  | nil : AgAll P H [] []
  | d {v : V} {x : PyData} {vs : List V} {as : List Ag} : Dp K H v x → AgAll P H vs as → AgAll P H (v :: vs) (.d x :: as)
  | pot {p : Addr} {vs : List V} {as : List Ag} : P = some p → AgAll P H vs as → AgAll P H (.ref p :: vs) (.pot :: as)
def EvA (ta : TA) (ρ : List Sl) (π : Pot) (as : List Ag) (π' : Pot) : Prop := ∀ (w : Wd) (H : Hp) (σ : L2.St), Rel K w ρ π H σ → ∀ Q : List V → Hp → Prop,
  (∀ vs H', Ext w.P H H' → potAt w.P π' H' → AgAll K w.P (mask (w.M ρ) H') vs as → Q vs H') → ta σ H Q
end
theorem AgAll.up {K : PySem.W.Frag} {P : Option Addr} {H H' : Hp} (s : Same H H') : ∀ {vs : List V} {as : List Ag}, AgAll K P H vs as → AgAll K P H' vs as
  | _, _, .nil => .nil
  | _, _, .d a b => AgAll.d (Dp.up s _ a) (AgAll.up s b)
  | _, _, .pot a b => AgAll.pot a (AgAll.up s b)
theorem AgAll.data {K : PySem.W.Frag} {P : Option Addr} {H : Hp} : ∀ {vs : List V} {ds : List PyData}, AgAll K P H vs (ds.map .d) → DpAll K H vs ds
  | _, [], h => by cases h; exact .nil
  | _, x :: ds, h => by
    cases h with
    | d a b => exact .cons a (AgAll.data b)
theorem AgAll.length {K : PySem.W.Frag} {P : Option Addr} {H : Hp} : ∀ {vs : List V} {as : List Ag}, AgAll K P H vs as → vs.length = as.length
  | _, _, .nil => rfl
  | _, _, AgAll.d _ b => congrArg Nat.succ (AgAll.length b)
  | _, _, AgAll.pot _ b => congrArg Nat.succ (AgAll.length b)

/-! ### the context of a body -/
structure Glb where
  prog : Program
  w : World
  K : PySem.W.Frag
  mg : Str → Option Value
  base : Heap
structure Cz (G : Glb) (k : Nat) (NN : List Str) (sc : Scope) (B : Bool) (X : Cx) : Prop where
  prog : X.prog = G.prog
  w : X.w = G.w
  K : X.K = G.K
  mg : X.mg = G.mg
  base : X.base = G.base
  calm : X.calm = true
  gd : X.A.guards = some []
  room : Room k X.A
  N : X.N = NN
  nd : NN.Nodup
  sc : X.env.scope = sc
  xe : X.xe = fun _ _ => False
  fn : B = true → ∀ x, X.fn x = true

/-- an expression has the reading te, and where g holds it comes to d; the pot to π' -/
structure JE (K : PySem.W.Frag) (g : Prop) (X : Cx) (e : Expr) (te : TE) (ρ : List Sl) (π : Pot) (d : PyData) (π' : Pot) : Prop where
  pe : PE X e te
  ev : g → EvD K te ρ π d π'
structure JT (K : PySem.W.Frag) (g : Prop) (X : Cx) (e : Expr) (tt : TT) (ρ : List Sl) (π : Pot) (b : Bool) (π' : Pot) : Prop where
  pt : PT X e tt
  ev : g → EvT K tt ρ π b π'
structure JL (K : PySem.W.Frag) (g : Prop) (X : Cx) (e : Expr) (te : TE) (ρ : List Sl) (π : Pot) (ds : List PyData) (π' : Pot) : Prop where
  pe : PE X e te
  ev : g → EvL K te ρ π ds π'
structure JA (K : PySem.W.Frag) (g : Prop) (X : Cx) (es : List Expr) (ta : TA) (ρ : List Sl) (π : Pot) (as : List Ag) (π' : Pot) : Prop where
  pa : PA X es ta
  ev : g → EvA K ta ρ π as π'
end JD

/-! ## JDRules -/
set_option Elab.async false
set_option linter.all false
set_option maxRecDepth 100000
set_option maxHeartbeats 2000000
/-! JD: the rules of expressions -/
namespace JD
open PySem PySem.Spec PyProof.Rows L2

/-! ### names and constants -/
section
variable {G : Glb} {k : Nat} {N : List Str} {sc : Scope} {B : Bool} {X : Cx} {g : Prop} {ρ : List Sl} {π π1 π2 π3 : Pot}
theorem Cz.gl (c : Cz G k N sc B X) {x : Str} (h : sc.names.lookup x = some .globalImplicit) : Gl X x := by
  show X.env.scope.names.lookup x = _
  rw [c.sc]; exact h
theorem Cz.vis (c : Cz G k N sc B X) {x : Str} (h : Vis sc x) : Vis X.env.scope x := by rw [c.sc]; exact h
theorem Cz.nn (c : Cz G k N sc B X) {x : Str} (h : G.mg x = none) : X.mg x = none := by rw [c.mg]; exact h
theorem Cz.ss (c : Cz G k N sc B X) {x : Str} {u : Value} (h : G.mg x = some u) : X.mg x = some u := by rw [c.mg]; exact h
theorem ev_var {K : PySem.W.Frag} {i : Nat} {d : PyData} (h : ρ[i]? = some (.val d)) : EvD K (tVar i) ρ π d π := fun w H σ R Q q => by
  obtain ⟨v, h1, h2⟩ := R.vals i d h
  exact ⟨v, h1, q v H (Ext.refl H) R.pot h2⟩
theorem je_var (c : Cz G k N sc B X) (i : Nat) {x : Str} {pos : Pos} {d : PyData} (h : ρ[i]? = some (.val d) := by rfl) (hN : N[i]? = some x := by rfl) (hv : Vis sc x := by first | exact Or.inl rfl | exact Or.inr (Or.inl rfl) | exact Or.inr (Or.inr rfl))
    (hd : (x == ("__debug__" : Str)) = false := by decide) (hcd : (x == ("__classdict__" : Str)) = false := by decide) : JE G.K g X (.Name x pos) (tVar i) ρ π d π :=
  ⟨pe_var (by rw [c.N]; exact hN) (c.vis hv) hd hcd, fun _ => ev_var h⟩
theorem ev_c {K : PySem.W.Frag} {v : V} {d : PyData} (h : ∀ H, Dp K H v d) : EvD K (tC v) ρ π d π := fun w H σ R Q q => q v H (Ext.refl H) R.pot (h _)
theorem je_int {i j pos} : JE G.K g X (.Constant (.int i) j pos) (tC (.int i)) ρ π (.int i) π := ⟨pe_int, fun _ => ev_c fun _ => .int i⟩
theorem je_bl {b j pos} : JE G.K g X (.Constant (.bool b) j pos) (tC (.bl b)) ρ π (.bool b) π := ⟨pe_bl, fun _ => ev_c fun _ => .bl b⟩
theorem je_non {j pos} : JE G.K g X (.Constant .none j pos) (tC .non) ρ π .none π := ⟨pe_non, fun _ => ev_c fun _ => .non⟩
theorem je_str {x j pos} : JE G.K g X (.Constant (.str x) j pos) (tC (.str x)) ρ π (.str x) π := ⟨pe_str, fun _ => ev_c fun _ => .str x⟩
theorem je_gint (c : Cz G k N sc B X) {x : Str} {i : Int} {pos : Pos} (hm : ∃ t, G.mg x = some (.int i t)) (hg : sc.names.lookup x = some .globalImplicit := by rfl) (hd : (x == ("__debug__" : Str)) = false := by decide) :
    JE G.K g X (.Name x pos) (tC (.int i)) ρ π (.int i) π := by
  obtain ⟨t, hm⟩ := hm
  exact ⟨pe_glob (c.gl hg) (c.ss hm) ⟨t, rfl⟩ hd, fun _ => ev_c fun _ => .int i⟩
theorem je_gstr (c : Cz G k N sc B X) {x z : Str} {pos : Pos} (hm : ∃ t, G.mg x = some (.str z t)) (hg : sc.names.lookup x = some .globalImplicit := by rfl) (hd : (x == ("__debug__" : Str)) = false := by decide) :
    JE G.K g X (.Name x pos) (tC (.str z)) ρ π (.str z) π := by
  obtain ⟨t, hm⟩ := hm
  exact ⟨pe_glob (c.gl hg) (c.ss hm) ⟨t, rfl⟩ hd, fun _ => ev_c fun _ => .str z⟩
theorem je_gref (c : Cz G k N sc B X) {x : Str} {a : Addr} {d : PyData} {pos : Pos} (hm : G.mg x = some (.ref a)) (h : ∀ H, Dp G.K H (.ref a) d) (hg : sc.names.lookup x = some .globalImplicit := by rfl) (hd : (x == ("__debug__" : Str)) = false := by decide) :
    JE G.K g X (.Name x pos) (tC (.ref a)) ρ π d π := ⟨pe_glob (c.gl hg) (c.ss hm) rfl hd, fun _ => ev_c h⟩
end

/-! ### operators by what they come to -/
def RvD (K : PySem.W.Frag) (r : R2) (d1 d2 d : PyData) : Prop := ∀ (M : Addr → Prop) (H : Hp) (v1 v2 : V), (∀ a, M a → H a ≠ none) → Dp K (mask M H) v1 d1 → Dp K (mask M H) v2 d2 →
  ∀ Q : VK, (∀ v H', Same H H' → Dp K (mask M H') v d → Q v H') → r v1 v2 H Q
def RuD (K : PySem.W.Frag) (r : V → Hp → VK → Prop) (d1 d : PyData) : Prop := ∀ (M : Addr → Prop) (H : Hp) (v1 : V), (∀ a, M a → H a ≠ none) → Dp K (mask M H) v1 d1 →
  ∀ Q : VK, (∀ v H', Same H H' → Dp K (mask M H') v d → Q v H') → r v1 H Q
def RcD (K : PySem.W.Frag) (r : List V → Hp → VK → Prop) (ds : List PyData) (d : PyData) : Prop := ∀ (M : Addr → Prop) (H : Hp) (vs : List V), (∀ a, M a → H a ≠ none) → DpAll K (mask M H) vs ds →
  ∀ Q : VK, (∀ v H', Same H H' → Dp K (mask M H') v d → Q v H') → r vs H Q
/-- a new list | by values -/
def RcL (K : PySem.W.Frag) (r : List V → Hp → VK → Prop) (ds es : List PyData) : Prop := ∀ (M : Addr → Prop) (H : Hp) (vs : List V), (∀ a, M a → H a ≠ none) → DpAll K (mask M H) vs ds →
  ∀ Q : VK, (∀ p xs, H p = none → DpAll K (mask (fun a => M a ∨ a = p) (upd H p (.lst xs))) xs es → Q (.ref p) (upd H p (.lst xs))) → r vs H Q
section
variable {K : PySem.W.Frag} {ρ : List Sl} {π π1 π2 π3 : Pot} {d1 d2 d : PyData}
theorem ev_op {r : R2} {ta tb : TE} (ha : EvD K ta ρ π d1 π1) (hb : EvD K tb ρ π1 d2 π2) (hr : RvD K r d1 d2 d) : EvD K (tOp r ta tb) ρ π d π2 := fun w H σ R Q q =>
  ha w H σ R _ fun v1 H1 e1 p1 q1 => by
    have R1 := R.step e1 p1
    refine hb w H1 σ R1 _ fun v2 H2 e2 p2 q2 => ?_
    have R2 := R1.step e2 p2
    exact hr (w.M ρ) H2 v1 v2 (fun a m => R2.domH m) (Dp.up (R1.maskUp e2) _ q1) q2 Q fun v H' s h => q v H' ((e1.trans e2).trans (.of s)) (p2.same s) h
theorem ev_un {r : V → Hp → VK → Prop} {ta : TE} (ha : EvD K ta ρ π d1 π1) (hr : RuD K r d1 d) : EvD K (tUn r ta) ρ π d π1 := fun w H σ R Q q =>
  ha w H σ R _ fun v1 H1 e1 p1 q1 => hr (w.M ρ) H1 v1 (fun a m => (R.step e1 p1).domH m) q1 Q fun v H' s h => q v H' (e1.trans (.of s)) (p1.same s) h
theorem ea_nil : EvA K tNil ρ π [] π := fun w H σ R Q q => q [] H (Ext.refl H) R.pot .nil
theorem ea_cons {te : TE} {tr : TA} {as : List Ag} (h : EvD K te ρ π d π1) (hr : EvA K tr ρ π1 as π2) : EvA K (tCons te tr) ρ π (.d d :: as) π2 := fun w H σ R Q q =>
  h w H σ R _ fun v H1 e1 p1 q1 => by
    have R1 := R.step e1 p1
    exact hr w H1 σ R1 _ fun vs H2 e2 p2 q2 => q (v :: vs) H2 (e1.trans e2) p2 (AgAll.d (Dp.up (R1.maskUp e2) _ q1) q2)
theorem ea_pot {i : Nat} {tr : TA} {as : List Ag} (h : ρ[i]? = some .pot) (hr : EvA K tr ρ π as π1) : EvA K (tCons (tVar i) tr) ρ π (.pot :: as) π1 := fun w H σ R Q q => by
  obtain ⟨p, e, hσ⟩ := R.pots i h
  exact ⟨.ref p, hσ, hr w H σ R _ fun vs H2 e2 p2 q2 => q (.ref p :: vs) H2 e2 p2 (AgAll.pot e q2)⟩
theorem ev_cb {r : List V → Hp → VK → Prop} {ta : TA} {ds : List PyData} (ha : EvA K ta ρ π (ds.map .d) π1) (hr : RcD K r ds d) : EvD K (tCB r ta) ρ π d π1 := fun w H σ R Q q =>
  ha w H σ R _ fun vs H1 e1 p1 q1 => hr (w.M ρ) H1 vs (fun a m => (R.step e1 p1).domH m) q1.data Q fun v H' s h => q v H' (e1.trans (.of s)) (p1.same s) h
theorem Ext.fresh {P : Option Addr} {π : Pot} {H H' : Hp} (e : Ext P H H') (hp : potAt P π H') {p : Addr} (h : H' p = none) : H p = none := by
  cases q : H p with
  | none => rfl
  | some o =>
    by_cases c : P = some p
    · rw [hp p c] at h; cases h
    · rw [e p o c q] at h; cases h
theorem el_cb {r : List V → Hp → VK → Prop} {ta : TA} {ds es : List PyData} (ha : EvA K ta ρ π (ds.map .d) π1) (hr : RcL K r ds es) : EvL K (tCB r ta) ρ π es π1 := fun w H σ R Q q =>
  ha w H σ R _ fun vs H1 e1 p1 q1 => hr (w.M ρ) H1 vs (fun a m => (R.step e1 p1).domH m) q1.data Q fun p xs hp h =>
    q p xs _ (e1.trans (.new hp)) (fun b eb => by rw [upd_ne (ne_of_none (p1 b eb) hp)]; exact p1 b eb) (e1.fresh p1 hp) upd_same h
/-- a new list as data -/
theorem ev_ofL {te : TE} {ds : List PyData} (h : EvL K te ρ π ds π1) : EvD K te ρ π (.list ds) π1 := fun w H σ R Q q =>
  h w H σ R Q fun p xs H' e1 p1 hn hp ha => q (.ref p) H' e1 p1 (.lst (.inl (.inl (by
    rw [mask_out (fun m => R.domH m hn)]; exact hp))) (DpAll.up (mask_mono fun a o n h => ⟨fun m => n (.inl m), h⟩) _ ha))
/-- items at new places -/
theorem new_items {M : Addr → Prop} {H : Hp} {p : Addr} {o : HO} {vs : List V} {ds : List PyData} (hp : H p = none) (h : DpAll K (mask M H) vs ds) : DpAll K (mask (fun a => M a ∨ a = p) (upd H p o)) vs ds :=
  DpAll.up (mask_mono fun a u n e => ⟨fun m => m.elim n (fun z => by rw [z, hp] at e; cases e), by rw [upd_ne (ne_of_none e hp)]; exact e⟩) _ h
theorem new_items' {M : Addr → Prop} {H : Hp} {p : Addr} {o : HO} {vs : List V} {ds : List PyData} (hp : H p = none) (h : DpAll K (mask M H) vs ds) : DpAll K (mask M (upd H p o)) vs ds :=
  DpAll.up (mask_mono fun a u n e => ⟨n, by rw [upd_ne (ne_of_none e hp)]; exact e⟩) _ h
theorem Same.new {H : Hp} {p : Addr} {o : HO} (hp : H p = none) : Same H (upd H p o) := fun a u e => by
  rw [upd_ne (ne_of_none e hp)]; exact e
/-- a new tuple -/
theorem new_tup {M : Addr → Prop} {H : Hp} {p : Addr} {vs : List V} {ds : List PyData} (dm : ∀ a, M a → H a ≠ none) (hp : H p = none) (h : DpAll K (mask M H) vs ds) : Dp K (mask M (upd H p (.tup vs))) (.ref p) (.tuple ds) :=
  .tup (.inl (.inl (by rw [mask_out (fun m => dm p m hp)]; exact upd_same))) (new_items' hp h)
theorem new_lst {M : Addr → Prop} {H : Hp} {p : Addr} {vs : List V} {ds : List PyData} (dm : ∀ a, M a → H a ≠ none) (hp : H p = none) (h : DpAll K (mask M H) vs ds) : Dp K (mask M (upd H p (.lst vs))) (.ref p) (.list ds) :=
  .lst (.inl (.inl (by rw [mask_out (fun m => dm p m hp)]; exact upd_same))) (new_items' hp h)
theorem ev_tup {ta : TA} {ds : List PyData} (h : EvA K ta ρ π (ds.map .d) π1) (hl : ds.length ≤ sizeLine) : EvD K (tTup ta) ρ π (.tuple ds) π1 := fun w H σ R Q q =>
  h w H σ R _ fun vs H1 e1 p1 q1 => ⟨by rw [q1.data.len]; exact hl, fun p hp => q (.ref p) _ (e1.trans (.new hp)) (p1.same (Same.new hp)) (new_tup (fun a m => (R.step e1 p1).domH m) hp q1.data)⟩
theorem el_lst {ta : TA} {ds : List PyData} (h : EvA K ta ρ π (ds.map .d) π1) (hl : ds.length ≤ sizeLine) : EvL K (tLst ta) ρ π ds π1 := fun w H σ R Q q =>
  h w H σ R _ fun vs H1 e1 p1 q1 => ⟨by rw [q1.data.len]; exact hl, fun p hp => q p vs _ (e1.trans (.new hp)) (p1.same (Same.new hp)) (e1.fresh p1 hp) upd_same (new_items hp q1.data)⟩

theorem et_test {te : TE} {b : Bool} (h : EvD K te ρ π (.bool b) π1) : EvT K (tTest te) ρ π b π1 := fun w H σ R Q q =>
  h w H σ R _ fun v H1 e1 p1 q1 => by
    cases q1
    exact ⟨b, rfl, q H1 e1 p1⟩
theorem et_B {te : TE} {b : Bool} (h : EvD K te ρ π (.bool b) π1) : EvT K (tB te) ρ π b π1 := et_test h
theorem et_and {t u : TT} {a b : Bool} (h1 : EvT K t ρ π a π1) (h2 : a = true → EvT K u ρ π1 b π2) (h3 : a = false → π2 = π1) : EvT K (tAnd t u) ρ π (a && b) π2 := fun w H σ R Q q =>
  h1 w H σ R _ fun H1 e1 p1 => by
    cases a with
    | true =>
      show u σ H1 Q
      exact h2 rfl w H1 σ (R.step e1 p1) Q fun H2 e2 p2 => q H2 (e1.trans e2) p2
    | false =>
      show Q false H1
      exact q H1 e1 (by rw [h3 rfl]; exact p1)
theorem et_or {t u : TT} {a b : Bool} (h1 : EvT K t ρ π a π1) (h2 : a = false → EvT K u ρ π1 b π2) (h3 : a = true → π2 = π1) : EvT K (tOr t u) ρ π (a || b) π2 := fun w H σ R Q q =>
  h1 w H σ R _ fun H1 e1 p1 => by
    cases a with
    | false =>
      show u σ H1 Q
      exact h2 rfl w H1 σ (R.step e1 p1) Q fun H2 e2 p2 => q H2 (e1.trans e2) p2
    | true =>
      show Q true H1
      exact q H1 e1 (by rw [h3 rfl]; exact p1)
theorem et_not {t : TT} {a : Bool} (h1 : EvT K t ρ π a π1) : EvT K (tNot t) ρ π (!a) π1 := fun w H σ R Q q => h1 w H σ R _ fun H1 e1 p1 => q H1 e1 p1
theorem ev_and {ta tb : TE} {a b : Bool} (h1 : EvD K ta ρ π (.bool a) π1) (h2 : a = true → EvD K tb ρ π1 (.bool b) π2) (h3 : a = false → π2 = π1) : EvD K (tAndV ta tb) ρ π (.bool (a && b)) π2 := fun w H σ R Q q =>
  h1 w H σ R _ fun v H1 e1 p1 q1 => by
    cases q1
    refine ⟨a, rfl, ?_⟩
    cases a with
    | true =>
      show tb σ H1 Q
      exact h2 rfl w H1 σ (R.step e1 p1) Q fun v H2 e2 p2 q2 => q v H2 (e1.trans e2) p2 q2
    | false =>
      show Q (.bl false) H1
      exact q _ H1 e1 (by rw [h3 rfl]; exact p1) (.bl false)
theorem ev_or {ta tb : TE} {a b : Bool} (h1 : EvD K ta ρ π (.bool a) π1) (h2 : a = false → EvD K tb ρ π1 (.bool b) π2) (h3 : a = true → π2 = π1) : EvD K (tOrV ta tb) ρ π (.bool (a || b)) π2 := fun w H σ R Q q =>
  h1 w H σ R _ fun v H1 e1 p1 q1 => by
    cases q1
    refine ⟨a, rfl, ?_⟩
    cases a with
    | false =>
      show tb σ H1 Q
      exact h2 rfl w H1 σ (R.step e1 p1) Q fun v H2 e2 p2 q2 => q v H2 (e1.trans e2) p2 q2
    | true =>
      show Q (.bl true) H1
      exact q _ H1 e1 (by rw [h3 rfl]; exact p1) (.bl true)
theorem ev_not {ta : TE} {a : Bool} (h1 : EvD K ta ρ π (.bool a) π1) : EvD K (tNotV ta) ρ π (.bool (!a)) π1 := fun w H σ R Q q =>
  h1 w H σ R _ fun v H1 e1 p1 q1 => by
    cases q1
    exact ⟨a, rfl, q _ H1 e1 p1 (.bl _)⟩
theorem ev_if {t : TT} {ta tb : TE} {b : Bool} (h : EvT K t ρ π b π1) (h1 : b = true → EvD K ta ρ π1 d π2) (h2 : b = false → EvD K tb ρ π1 d π2) : EvD K (tIf t ta tb) ρ π d π2 := fun w H σ R Q q =>
  h w H σ R _ fun H1 e1 p1 => by
    cases b with
    | true =>
      show ta σ H1 Q
      exact h1 rfl w H1 σ (R.step e1 p1) Q fun v H2 e2 p2 q2 => q v H2 (e1.trans e2) p2 q2
    | false =>
      show tb σ H1 Q
      exact h2 rfl w H1 σ (R.step e1 p1) Q fun v H2 e2 p2 q2 => q v H2 (e1.trans e2) p2 q2
theorem ev_chain {r r' : R2} {ta tb tc : TE} {d3 : PyData} {a b : Bool} (h1 : EvD K ta ρ π d1 π1) (h2 : EvD K tb ρ π1 d2 π2) (hr : RvD K r d1 d2 (.bool a)) (h3 : a = true → EvD K tc ρ π2 d3 π3) (hr' : a = true → RvD K r' d2 d3 (.bool b)) (h4 : a = false → π3 = π2) :
    EvD K (tChain r r' ta tb tc) ρ π (.bool (a && b)) π3 := fun w H σ R Q q =>
  h1 w H σ R _ fun v1 H1 e1 p1 q1 => by
    have R1 := R.step e1 p1
    refine h2 w H1 σ R1 _ fun v2 H2 e2 p2 q2 => ?_
    have R2 := R1.step e2 p2
    refine hr (w.M ρ) H2 v1 v2 (fun a m => R2.domH m) (Dp.up (R1.maskUp e2) _ q1) q2 _ fun v H3 s h => ?_
    cases h
    have R3 := R2.step (.of s) (p2.same s)
    refine ⟨a, rfl, ?_⟩
    cases a with
    | true =>
      refine h3 rfl w H3 σ R3 _ fun v4 H4 e4 p4 q4 => ?_
      have R4 := R3.step e4 p4
      exact hr' rfl (w.M ρ) H4 v2 v4 (fun a m => R4.domH m) (Dp.up ((R2.maskUp (.of s)).trans (R3.maskUp e4)) _ q2) q4 Q fun v5 H5 s5 q5 => q v5 H5 ((((e1.trans e2).trans (.of s)).trans e4).trans (.of s5)) (p4.same s5) q5
    | false =>
      exact q _ H3 ((e1.trans e2).trans (.of s)) (by rw [h4 rfl]; exact p2.same s) (.bl false)
end
end JD
namespace JD
open PySem PySem.Spec PyProof.Rows L2
section
variable {G : Glb} {k : Nat} {N : List Str} {sc : Scope} {B : Bool} {X : Cx} {g : Prop} {ρ : List Sl} {π π1 π2 π3 : Pot} {a b c' : Expr} {ta tb tc : TE} {tt tu : TT} {d d1 d2 d3 : PyData} {pos : Pos} {rest : List Expr}
/-- told otherwise -/
theorem JE.is (h : JE G.K g X a ta ρ π d π1) (e : g → d = d2) : JE G.K g X a ta ρ π d2 π1 := ⟨h.pe, fun q => by rw [← e q]; exact h.ev q⟩
theorem JT.is {x y : Bool} (h : JT G.K g X a tt ρ π x π1) (e : g → x = y) : JT G.K g X a tt ρ π y π1 := ⟨h.pt, fun q => by rw [← e q]; exact h.ev q⟩
theorem JL.is {ds es : List PyData} (h : JL G.K g X a ta ρ π ds π1) (e : g → ds = es) : JL G.K g X a ta ρ π es π1 := ⟨h.pe, fun q => by rw [← e q]; exact h.ev q⟩
theorem JL.je {ds : List PyData} (h : JL G.K g X a ta ρ π ds π1) : JE G.K g X a ta ρ π (.list ds) π1 := ⟨h.pe, fun q => ev_ofL (h.ev q)⟩
theorem je_op {op : Operator} {r : R2} (ho : OpR X (binaryOp op) r) (hr : g → RvD G.K r d1 d2 d) (ha : JE G.K g X a ta ρ π d1 π1) (hb : JE G.K g X b tb ρ π1 d2 π2) : JE G.K g X (.BinOp a op b pos) (tOp r ta tb) ρ π d π2 :=
  ⟨pe_op ho ha.pe hb.pe, fun q => ev_op (ha.ev q) (hb.ev q) (hr q)⟩
theorem je_un {op : UnaryOp} {r : V → Hp → VK → Prop} (ho : UnR X (unaryOp op) r) (hr : g → RuD G.K r d1 d) (ha : JE G.K g X a ta ρ π d1 π1) : JE G.K g X (.UnaryOp op a pos) (tUn r ta) ρ π d π1 :=
  ⟨pe_un ho ha.pe, fun q => ev_un (ha.ev q) (hr q)⟩
theorem je_cmp {op : CmpOp} {r : R2} (ho : OpR X (compareOp op) r) (hr : g → RvD G.K r d1 d2 d) (ha : JE G.K g X a ta ρ π d1 π1) (hb : JE G.K g X b tb ρ π1 d2 π2) (hm : behindInMarks op b = false := by first | exact nomark _ | rfl) :
    JE G.K g X (.Compare a [op] [b] pos) (tOp r ta tb) ρ π d π2 := ⟨pe_cmpR ho ha.pe hb.pe hm, fun q => ev_op (ha.ev q) (hb.ev q) (hr q)⟩
theorem jt_cmp {op : CmpOp} {r : R2} {x : Bool} (ho : OpR X (compareOp op) r) (hr : g → RvD G.K r d1 d2 (.bool x)) (ha : JE G.K g X a ta ρ π d1 π1) (hb : JE G.K g X b tb ρ π1 d2 π2) (hm : behindInMarks op b = false := by first | exact nomark _ | rfl) :
    JT G.K g X (.Compare a [op] [b] pos) (tTest (tOp r ta tb)) ρ π x π2 := ⟨pt_cmpR ho ha.pe hb.pe hm, fun q => et_test (ev_op (ha.ev q) (hb.ev q) (hr q))⟩
theorem je_chain {op op' : CmpOp} {r r' : R2} {x y : Bool} (ho : OpR X (compareOp op) r) (ho' : OpR X (compareOp op') r') (hr : g → RvD G.K r d1 d2 (.bool x)) (hr' : g ∧ x = true → RvD G.K r' d2 d3 (.bool y))
    (ha : JE G.K g X a ta ρ π d1 π1) (hb : JE G.K g X b tb ρ π1 d2 π2) (hc : JE G.K (g ∧ x = true) X c' tc ρ π2 d3 π2) (hm : lastMarks [op, op'] [b, c'] = false := by with_unfolding_all rfl) :
    JE G.K g X (.Compare a [op, op'] [b, c'] pos) (tChain r r' ta tb tc) ρ π (.bool (x && y)) π2 :=
  ⟨pe_chain ho ho' ha.pe hb.pe hc.pe hm, fun q => ev_chain (ha.ev q) (hb.ev q) (hr q) (fun e => hc.ev ⟨q, e⟩) (fun e => hr' ⟨q, e⟩) fun _ => rfl⟩
theorem jt_chain {op op' : CmpOp} {r r' : R2} {x y : Bool} (ho : OpR X (compareOp op) r) (ho' : OpR X (compareOp op') r') (hr : g → RvD G.K r d1 d2 (.bool x)) (hr' : g ∧ x = true → RvD G.K r' d2 d3 (.bool y))
    (ha : JE G.K g X a ta ρ π d1 π1) (hb : JE G.K g X b tb ρ π1 d2 π2) (hc : JE G.K (g ∧ x = true) X c' tc ρ π2 d3 π2) (hm : lastMarks [op, op'] [b, c'] = false := by with_unfolding_all rfl) :
    JT G.K g X (.Compare a [op, op'] [b, c'] pos) (tTest (tChain r r' ta tb tc)) ρ π (x && y) π2 :=
  ⟨pt_chain ho ho' ha.pe hb.pe hc.pe hm, fun q => et_test (ev_chain (ha.ev q) (hb.ev q) (hr q) (fun e => hc.ev ⟨q, e⟩) (fun e => hr' ⟨q, e⟩) fun _ => rfl)⟩
/-- an expression that comes to a bool, as a test -/
theorem jt_val {x : Bool} (h : JE G.K g X a ta ρ π (.bool x) π1) (he : ∀ whole, isTrue a X.env whole = (do let v ← whole; standAt a.pos; holding [v] (truthy v)) := by intro _; rfl) : JT G.K g X a (tB ta) ρ π x π1 :=
  ⟨pt_val h.pe he, fun q => et_B (h.ev q)⟩
theorem jt_not {x : Bool} (h : JT G.K g X a tt ρ π x π1) : JT G.K g X (.UnaryOp .Not a pos) (tNot tt) ρ π (!x) π1 := ⟨pt_not h.pt, fun q => et_not (h.ev q)⟩
theorem je_not {x : Bool} (h : JE G.K g X a ta ρ π (.bool x) π1) : JE G.K g X (.UnaryOp .Not a pos) (tNotV ta) ρ π (.bool (!x)) π1 := ⟨pe_not h.pe, fun q => ev_not (h.ev q)⟩
/-- a chain of and, or as a test: PW -/
structure JW (K : PySem.W.Frag) (g : Prop) (X : Cx) (e : Expr) (tt : TT) (ρ : List Sl) (π : Pot) (b : Bool) (π' : Pot) : Prop where
  pw : PW X e tt
  ev : g → EvT K tt ρ π b π'
theorem JW.jt {x : Bool} (h : JW G.K g X a tt ρ π x π1) : JT G.K g X a tt ρ π x π1 := ⟨h.pw.pt, h.ev⟩
theorem jw_and1 {x : Bool} (h : JT G.K g X a tt ρ π x π1) : JW G.K g X (.BoolOp .And [a] pos) tt ρ π x π1 := ⟨pw_and1 h.pt, h.ev⟩
theorem jw_or1 {x : Bool} (h : JT G.K g X a tt ρ π x π1) : JW G.K g X (.BoolOp .Or [a] pos) tt ρ π x π1 := ⟨pw_or1 h.pt, h.ev⟩
theorem jw_and {x y : Bool} (ha : JT G.K g X a tt ρ π x π1) (hb : JW G.K (g ∧ x = true) X (.BoolOp .And (b :: rest) pos) tu ρ π1 y π1) : JW G.K g X (.BoolOp .And (a :: b :: rest) pos) (tAnd tt tu) ρ π (x && y) π1 :=
  ⟨pw_and ha.pt hb.pw, fun q => et_and (ha.ev q) (fun e => hb.ev ⟨q, e⟩) fun _ => rfl⟩
theorem jw_or {x y : Bool} (ha : JT G.K g X a tt ρ π x π1) (hb : JW G.K (g ∧ x = false) X (.BoolOp .Or (b :: rest) pos) tu ρ π1 y π1) : JW G.K g X (.BoolOp .Or (a :: b :: rest) pos) (tOr tt tu) ρ π (x || y) π1 :=
  ⟨pw_or ha.pt hb.pw, fun q => et_or (ha.ev q) (fun e => hb.ev ⟨q, e⟩) fun _ => rfl⟩
/-- .. as values, bools -/
theorem je_one {op} (h : JE G.K g X a ta ρ π d π1) : JE G.K g X (.BoolOp op [a] pos) ta ρ π d π1 := ⟨pe_one h.pe, h.ev⟩
theorem je_and {x y : Bool} (ha : JE G.K g X a ta ρ π (.bool x) π1) (hb : JE G.K (g ∧ x = true) X (.BoolOp .And (b :: rest) pos) tb ρ π1 (.bool y) π2) (hp : g ∧ x = false → π2 = π1 := by exact fun _ => rfl) : JE G.K g X (.BoolOp .And (a :: b :: rest) pos) (tAndV ta tb) ρ π (.bool (x && y)) π2 :=
  ⟨pe_and ha.pe hb.pe, fun q => ev_and (ha.ev q) (fun e => hb.ev ⟨q, e⟩) fun e => hp ⟨q, e⟩⟩
theorem je_or {x y : Bool} (ha : JE G.K g X a ta ρ π (.bool x) π1) (hb : JE G.K (g ∧ x = false) X (.BoolOp .Or (b :: rest) pos) tb ρ π1 (.bool y) π1) : JE G.K g X (.BoolOp .Or (a :: b :: rest) pos) (tOrV ta tb) ρ π (.bool (x || y)) π1 :=
  ⟨pe_or ha.pe hb.pe, fun q => ev_or (ha.ev q) (fun e => hb.ev ⟨q, e⟩) fun _ => rfl⟩
/-- x if t else y -/
theorem je_if {t : Expr} {x : Bool} (ht : JT G.K g X t tt ρ π x π1) (ha : JE G.K (g ∧ x = true) X a ta ρ π1 d π2) (hb : JE G.K (g ∧ x = false) X b tb ρ π1 d π2) : JE G.K g X (.IfExp t a b pos) (tIf tt ta tb) ρ π d π2 :=
  ⟨pe_ifExp ht.pt ha.pe hb.pe, fun q => ev_if (ht.ev q) (fun e => ha.ev ⟨q, e⟩) fun e => hb.ev ⟨q, e⟩⟩
theorem je_if' {t : Expr} {x : Bool} (ht : JT G.K g X t tt ρ π x π1) (ha : JE G.K (g ∧ x = true) X a ta ρ π1 d1 π2) (hb : JE G.K (g ∧ x = false) X b tb ρ π1 d2 π2) : JE G.K g X (.IfExp t a b pos) (tIf tt ta tb) ρ π (if x then d1 else d2) π2 :=
  je_if ht (ha.is fun h => by rw [h.2]; rfl) (hb.is fun h => by rw [h.2]; rfl)
/-- arguments, displays -/
theorem ja_nil : JA G.K g X [] tNil ρ π [] π := ⟨pa_nil, fun _ => ea_nil⟩
theorem ja_cons {es : List Expr} {tr : TA} {as : List Ag} (h : JE G.K g X a ta ρ π d π1) (hr : JA G.K g X es tr ρ π1 as π2) (hs : starEach (a :: es) X.env = (false, eval a X.env) :: starEach es X.env := by rfl) :
    JA G.K g X (a :: es) (tCons ta tr) ρ π (.d d :: as) π2 := ⟨pa_cons h.pe hr.pa hs, fun q => ea_cons (h.ev q) (hr.ev q)⟩
theorem ja_pot (c : Cz G k N sc B X) (i : Nat) {x : Str} {p : Pos} {es : List Expr} {tr : TA} {as : List Ag} (hr : JA G.K g X es tr ρ π as π1) (h : ρ[i]? = some .pot := by rfl) (hN : N[i]? = some x := by rfl) (hv : Vis sc x := by first | exact Or.inl rfl | exact Or.inr (Or.inl rfl) | exact Or.inr (Or.inr rfl))
    (hd : (x == ("__debug__" : Str)) = false := by decide) (hcd : (x == ("__classdict__" : Str)) = false := by decide) (hs : starEach (.Name x p :: es) X.env = (false, eval (.Name x p) X.env) :: starEach es X.env := by rfl) :
    JA G.K g X (.Name x p :: es) (tCons (tVar i) tr) ρ π (.pot :: as) π1 := ⟨pa_cons (pe_var (by rw [c.N]; exact hN) (c.vis hv) hd hcd) hr.pa hs, fun q => ea_pot h (hr.ev q)⟩
theorem je_tup {es : List Expr} {t : TA} {ds : List PyData} {x1} (h : JA G.K g X es t ρ π (ds.map .d) π1) (hl : ds.length ≤ sizeLine) : JE G.K g X (.Tuple es x1 pos) (tTup t) ρ π (.tuple ds) π1 := ⟨pe_tup h.pa, fun q => ev_tup (h.ev q) hl⟩
theorem jl_lst {es : List Expr} {t : TA} {ds : List PyData} (h : JA G.K g X es t ρ π (ds.map .d) π1) (hl : ds.length ≤ sizeLine) : JL G.K g X (.List es pos) (tLst t) ρ π ds π1 := ⟨pe_lst h.pa, fun q => el_lst (h.ev q) hl⟩
/-- built-in functions, classes -/
theorem je_callB (c : Cz G k N sc B X) {x : Str} {id : String} {r : List V → Hp → VK → Prop} {e : Expr} {es : List Expr} {t : TA} {ds : List PyData} {p : Pos} (hc : CallR X (.builtin id) r) (hm : G.mg x = none) (hr : g → RcD G.K r ds d) (ha : JA G.K g X (e :: es) t ρ π (ds.map .d) π1)
    (hv : bootBuiltins x = some (.builtin id) := by decide +kernel) (hg : sc.names.lookup x = some .globalImplicit := by rfl) (hn : x ≠ "__name__" := by decide) (hdb : (x == ("__debug__" : Str)) = false := by decide)
    (he : starEach (e :: es) X.env = (false, eval e X.env) :: starEach es X.env := by rfl) (hpl : (backTo pos (starEach es X.env)).any (·.1) = false := by rfl) : JE G.K g X (.Call (.Name x p) (e :: es) [] pos) (tCB r t) ρ π d π1 :=
  ⟨pe_callB hc (c.gl hg) (c.nn hm) hv ha.pa hn hdb he hpl, fun q => ev_cb (ha.ev q) (hr q)⟩
theorem je_callTy (c : Cz G k N sc B X) {x : Str} {T : String} {r : List V → Hp → VK → Prop} {e : Expr} {es : List Expr} {t : TA} {ds : List PyData} {p : Pos} (hc : CallR X (.type T) r) (hm : G.mg x = none) (hr : g → RcD G.K r ds d) (ha : JA G.K g X (e :: es) t ρ π (ds.map .d) π1)
    (hv : bootBuiltins x = some (.type T) := by decide +kernel) (hg : sc.names.lookup x = some .globalImplicit := by rfl) (hn : x ≠ "__name__" := by decide) (hdb : (x == ("__debug__" : Str)) = false := by decide)
    (he : starEach (e :: es) X.env = (false, eval e X.env) :: starEach es X.env := by rfl) (hpl : (backTo pos (starEach es X.env)).any (·.1) = false := by rfl) : JE G.K g X (.Call (.Name x p) (e :: es) [] pos) (tCB r t) ρ π d π1 :=
  ⟨pe_callTy hc (c.gl hg) (c.nn hm) hv ha.pa hn hdb he hpl, fun q => ev_cb (ha.ev q) (hr q)⟩
theorem jl_callB (c : Cz G k N sc B X) {x : Str} {id : String} {r : List V → Hp → VK → Prop} {e : Expr} {es : List Expr} {t : TA} {ds fs : List PyData} {p : Pos} (hc : CallR X (.builtin id) r) (hm : G.mg x = none) (hr : g → RcL G.K r ds fs) (ha : JA G.K g X (e :: es) t ρ π (ds.map .d) π1)
    (hv : bootBuiltins x = some (.builtin id) := by decide +kernel) (hg : sc.names.lookup x = some .globalImplicit := by rfl) (hn : x ≠ "__name__" := by decide) (hdb : (x == ("__debug__" : Str)) = false := by decide)
    (he : starEach (e :: es) X.env = (false, eval e X.env) :: starEach es X.env := by rfl) (hpl : (backTo pos (starEach es X.env)).any (·.1) = false := by rfl) : JL G.K g X (.Call (.Name x p) (e :: es) [] pos) (tCB r t) ρ π fs π1 :=
  ⟨pe_callB hc (c.gl hg) (c.nn hm) hv ha.pa hn hdb he hpl, fun q => el_cb (ha.ev q) (hr q)⟩
theorem jl_callTy (c : Cz G k N sc B X) {x : Str} {T : String} {r : List V → Hp → VK → Prop} {e : Expr} {es : List Expr} {t : TA} {ds fs : List PyData} {p : Pos} (hc : CallR X (.type T) r) (hm : G.mg x = none) (hr : g → RcL G.K r ds fs) (ha : JA G.K g X (e :: es) t ρ π (ds.map .d) π1)
    (hv : bootBuiltins x = some (.type T) := by decide +kernel) (hg : sc.names.lookup x = some .globalImplicit := by rfl) (hn : x ≠ "__name__" := by decide) (hdb : (x == ("__debug__" : Str)) = false := by decide)
    (he : starEach (e :: es) X.env = (false, eval e X.env) :: starEach es X.env := by rfl) (hpl : (backTo pos (starEach es X.env)).any (·.1) = false := by rfl) : JL G.K g X (.Call (.Name x p) (e :: es) [] pos) (tCB r t) ρ π fs π1 :=
  ⟨pe_callTy hc (c.gl hg) (c.nn hm) hv ha.pa hn hdb he hpl, fun q => el_cb (ha.ev q) (hr q)⟩
end
end JD

/-! ## JDStmts -/
set_option Elab.async false
set_option linter.all false
set_option maxRecDepth 100000
set_option maxHeartbeats 2000000
/-! JD: defs, calls, statements, loops, comprehensions -/
namespace JD
open PySem PySem.Spec PyProof.Rows L2

/-! ### what a def is told to do: for which pot and arguments it hands back what, and the pot then -/
abbrev Says := Pot → List Ag → PyData → Pot → Prop
def spR (K : PySem.W.Frag) (R : Says) : Sp := fun vs H Q _ => ∃ (P : Option Addr) (L0 : Addr → Prop) (as : List Ag) (π : Pot) (d : PyData) (π' : Pot),
  (∀ a, L0 a → H a ≠ none) ∧ (∀ p, P = some p → L0 p) ∧ potAt P π H ∧ AgAll K P (mask L0 H) vs as ∧ R π as d π' ∧ ∀ v H', Ext P H H' → potAt P π' H' → Dp K (mask L0 H') v d → Q v H'
/-- a def keeps its word wherever k calls have room and nothing is being shown -/
structure FnG (G : Glb) (k : Nat) (f : Addr) (fd : FuncData) (ps : List Str) (R : Says) : Prop where
  len : ∀ π as d π', R π as d π' → as.length = ps.length
  run : ∀ (A : Around) (outer : List Env) (s : Shared) (H : Hp) (args : Args) (us : List Value) (vs : List V) (Q : VK), Room k A → A.guards = some [] → Env0 G.prog G.w G.K G.mg G.base A outer s H → BindsTo s fd args (ps.zip us) → Vals vs us → spR G.K R vs H Q E0 →
    codeAny (model G.prog G.w) A (.call (.ref f) args) (CR CX0 outer G.prog G.w H s Q E0) s
theorem FnG.mono {G : Glb} {j k : Nat} {f : Addr} {fd : FuncData} {ps : List Str} {R : Says} (F : FnG G j f fd ps R) (h : j ≤ k) : FnG G k f fd ps R := ⟨F.len, fun A outer s H args us vs Q hr => F.run A outer s H args us vs Q (hr.mono h)⟩

section
variable {G : Glb} {k : Nat} {N : List Str} {sc : Scope} {B : Bool} {X : Cx} {g : Prop} {ρ : List Sl} {π π1 π2 : Pot}
theorem run_fnG {f : Addr} {fd : FuncData} {ps : List Str} {R : Says} {pins : List (Addr × Obj)} {σ : L2.St} {H : Hp} {s : Shared} {Q : VK} {us : List Value} {vs : List V} (c : Cz G k N sc B X) (F : FnG G k f fd ps R) (hb : Binds G.K fd ps []) (I : Inv X pins σ H s) (r : Vals vs us) (h : spR G.K R vs H Q E0) :
    wpAny (model X.prog X.w) X.A (call (.ref f) us) (EP X pins σ Q) X.xe s := by
  have hl : (us ++ []).length = ps.length := by
    obtain ⟨P, L0, as, π, d, π', _, _, _, ha, hR, _⟩ := h
    rw [List.append_nil, ← r.length, ha.length]
    exact F.len _ _ _ _ hR
  have e0 : Env0 G.prog G.w G.K G.mg G.base X.A X.stack s H := by
    have q := I.env0
    rw [c.prog, c.w, c.K, c.mg, c.base] at q
    exact q
  have bd := hb s us (by have q := I.kIn; rw [c.K] at q; exact q) hl
  rw [List.append_nil] at bd
  have go := F.run X.A X.stack s H ⟨us, []⟩ us vs Q c.room c.gd e0 bd r h
  rw [← c.prog, ← c.w] at go
  refine wpAny_call (codeAny_mono go fun r s' hq => ?_)
  cases r with
  | error e => exact False.elim hq
  | ok fl =>
    cases fl with
    | ret u => exact I.after hq
    | next => exact False.elim hq
    | brk => exact False.elim hq
    | cont => exact False.elim hq
theorem pe_callG {f : Addr} {fd : FuncData} {ps : List Str} {R : Says} {x : Str} {e : Expr} {es : List Expr} {p pos : Pos} {t : TA} (c : Cz G k N sc B X) (F : FnG G k f fd ps R) (hb : Binds G.K fd ps []) (hm : G.mg x = some (.ref f)) (hk : PySem.W.keepIn G.K (.ref f) = true) (ha : PA X (e :: es) t)
    (hg : sc.names.lookup x = some .globalImplicit := by rfl) (hdb : (x == ("__debug__" : Str)) = false := by decide) (he : starEach (e :: es) X.env = (false, eval e X.env) :: starEach es X.env := by rfl) (hpl : (backTo pos (starEach es X.env)).any (·.1) = false := by rfl) :
    PE X (.Call (.Name x p) (e :: es) [] pos) (tCall (spR G.K R) [] E0 t) := by
  refine ⟨fun pins s σ H Q I h => ?_⟩
  refine wpAny_Call_Name_kw (ld_glob I (c.gl hg) (c.ss hm) ?_ hdb)
  refine PySem.W.callWith_K (h₀ := X.base) I.ok.mod.kin (by rw [c.K]; exact hk) (thn (ha.run pos pins s σ H _ I h) fun us s1 ⟨vs, H1, I1, r, q⟩ => ⟨I1.kIn, ?_⟩) he hpl
  have q : spR G.K R (vs ++ []) H1 Q E0 := q
  rw [List.append_nil] at q
  exact run_fnG c F hb I1 r q
/-- a call of a def of the text -/
structure Df (G : Glb) (k : Nat) (x : Str) (ps : List Str) (R : Says) : Prop where
  ok : ∃ (f : Addr) (fd : FuncData), FnG G k f fd ps R ∧ Binds G.K fd ps [] ∧ G.mg x = some (.ref f) ∧ PySem.W.keepIn G.K (.ref f) = true
theorem Df.mono {j : Nat} {x : Str} {ps : List Str} {R : Says} (D : Df G j x ps R) (h : j ≤ k) : Df G k x ps R := by
  obtain ⟨f, fd, F, a, b, c⟩ := D.ok
  exact ⟨f, fd, F.mono h, a, b, c⟩
theorem je_call {x : Str} {ps : List Str} {R : Says} {e : Expr} {es : List Expr} {p pos : Pos} {t : TA} {as : List Ag} {d : PyData} (c : Cz G k N sc B X) (D : Df G k x ps R) (ha : JA G.K g X (e :: es) t ρ π as π1) (hR : g → R π1 as d π2)
    (hg : sc.names.lookup x = some .globalImplicit := by rfl) (hdb : (x == ("__debug__" : Str)) = false := by decide) (he : starEach (e :: es) X.env = (false, eval e X.env) :: starEach es X.env := by rfl) (hpl : (backTo pos (starEach es X.env)).any (·.1) = false := by rfl) :
    JE G.K g X (.Call (.Name x p) (e :: es) [] pos) (tCall (spR G.K R) [] E0 t) ρ π d π2 := by
  obtain ⟨f, fd, F, hb, hm, hk⟩ := D.ok
  refine ⟨pe_callG c F hb hm hk ha.pa hg hdb he hpl, fun gg w H σ Rl Q q => ?_⟩
  refine ha.ev gg w H σ Rl _ fun vs H1 e1 p1 q1 => ?_
  have R1 := Rl.step e1 p1
  show spR G.K R (vs ++ []) H1 Q E0
  rw [List.append_nil]
  exact ⟨w.P, w.M ρ, as, π1, d, π2, fun a m => R1.domH m, fun p e => R1.potM e, p1, q1, hR gg, fun v H' e2 p2 h => q v H' (e1.trans e2) p2 h⟩
end

/-! ### statements -/
structure Cont where
  nx : List Sl → Pot → Prop
  rt : PyData → Pot → Prop
  bk : List Sl → Pot → Prop := fun _ _ => False
  ct : List Sl → Pot → Prop := fun _ _ => False
  /-- what else is asked of the value handed back -/
  rx : V → Hp → Prop := fun _ _ => True
def toD (K : PySem.W.Frag) (w : Wd) (C : List Sl → Pot → Prop) (D : L2.St → Hp → Prop) : Prop := ∀ ad ρ' π' H' σ', C ρ' π' → Rel K { w with ad := ad } ρ' π' H' σ' → D σ' H'
def toR (K : PySem.W.Frag) (w : Wd) (C : PyData → Pot → Prop) (Y : V → Hp → Prop) (D : VK) : Prop := ∀ v d π' H', C d π' → Y v H' → Ext w.P w.H0 H' → potAt w.P π' H' → Dp K (mask w.L0 H') v d → D v H'
def EvS (K : PySem.W.Frag) (ts : TS) (ρ : List Sl) (π : Pot) (C : Cont) : Prop := ∀ (w : Wd) (H : Hp) (σ : L2.St) (D : Ends), Rel K w ρ π H σ →
  toD K w C.nx D.nx → toR K w C.rt C.rx D.rt → toD K w C.bk D.bk → toD K w C.ct D.ct → ts D σ H
structure JS (K : PySem.W.Frag) (g : Prop) (X : Cx) (st : Stmt) (ts : TS) (ρ : List Sl) (π : Pot) (C : Cont) : Prop where
  ps : PS X st ts
  ev : g → EvS K ts ρ π C
structure JSs (K : PySem.W.Frag) (g : Prop) (X : Cx) (sts : List Stmt) (ts : TS) (ρ : List Sl) (π : Pot) (C : Cont) : Prop where
  pss : PSs X sts ts
  ev : g → EvS K ts ρ π C

section
variable {K : PySem.W.Frag} {w : Wd} {C C' : List Sl → Pot → Prop}
theorem toD.at {D : L2.St → Hp → Prop} (h : toD K w C D) (ad : Nat → Addr) : toD K { w with ad := ad } C D := fun ad' ρ' π' H' σ' c r => h ad' ρ' π' H' σ' c r
end
section
variable {G : Glb} {k : Nat} {N : List Str} {sc : Scope} {B : Bool} {X : Cx} {g : Prop} {ρ ρ1 : List Sl} {π π1 π2 : Pot} {C : Cont} {st : Stmt} {rest : List Stmt} {ts tr : TS} {e : Expr} {te : TE} {d : PyData} {pos : Pos}
theorem jss_nil (h : g → C.nx ρ π) : JSs G.K g X [] tNext ρ π C := ⟨pss_nil, fun q w H σ D R n _ _ _ => n w.ad ρ π H σ (h q) R⟩
theorem jss_one (h : JS G.K g X st ts ρ π C) : JSs G.K g X [st] ts ρ π C := ⟨pss_one h.ps, h.ev⟩
/-- a statement that comes to one state, then the rest -/
theorem jss_cons (h : JS G.K g X st ts ρ π { C with nx := fun ρ' π' => ρ' = ρ1 ∧ π' = π1 }) (hr : JSs G.K g X rest tr ρ1 π1 C) : JSs G.K g X (st :: rest) (tSeq ts tr) ρ π C :=
  ⟨pss_cons h.ps hr.pss, fun q w H σ D R n r b t => by
    refine h.ev q w H σ { D with nx := tr D } R (fun ad ρ' π' H' σ' c R' => ?_) r b t
    obtain ⟨rfl, rfl⟩ := c
    exact hr.ev q { w with ad := ad } H' σ' D R' (n.at ad) r (b.at ad) (t.at ad)⟩
/-- .. with a word between -/
theorem jss_mid {Mid : List Sl → Pot → Prop} (h : JS G.K g X st ts ρ π { C with nx := Mid }) (hp : PSs X rest tr) (hr : g → ∀ ρ' π', Mid ρ' π' → EvS G.K tr ρ' π' C) : JSs G.K g X (st :: rest) (tSeq ts tr) ρ π C :=
  ⟨pss_cons h.ps hp, fun q w H σ D R n r b t => h.ev q w H σ { D with nx := tr D } R (fun ad ρ' π' H' σ' c R' => hr q ρ' π' c { w with ad := ad } H' σ' D R' (n.at ad) r (b.at ad) (t.at ad)) r b t⟩
/-- an own list of slot i is data from here on -/
theorem js_freeze (i : Nat) {ds : List PyData} (h : ρ[i]? = some (.own ds)) {sts : List Stmt} (hr : JSs G.K g X sts ts (ρ.set i (.val (.list ds))) π C) : JSs G.K g X sts ts ρ π C := ⟨hr.pss, fun q w H σ D R n r b t => hr.ev q w H σ D (R.freeze h) n r b t⟩
/-- slot i is forgotten -/
theorem js_forget (i : Nat) {sts : List Stmt} (hr : JSs G.K g X sts ts (ρ.set i .un) π C) : JSs G.K g X sts ts ρ π C := ⟨hr.pss, fun q w H σ D R n r b t => by
  have R' := R.wipe1 (i := i) (x := σ[i]?.getD Option.none)
  have e : σ.set i (σ[i]?.getD Option.none) = σ := by
    refine List.ext_getElem? fun j => ?_
    by_cases c : i = j
    · subst c
      by_cases hi : i < σ.length
      · rw [List.getElem?_set_self hi]
        rw [List.getElem?_eq_getElem hi]; rfl
      · rw [List.getElem?_eq_none (by rw [List.length_set]; omega), List.getElem?_eq_none (by omega)]
    · rw [List.getElem?_set_ne c]
  rw [e] at R'
  exact hr.ev q w H σ D R' n r b t⟩
theorem Cz.loc (c : Cz G k N sc B X) {x : Str} (h : sc.names.lookup x = some .local) : X.env.scope.names.lookup x = some .local := by rw [c.sc]; exact h
theorem pg_nameG (c : Cz G k N sc B X) (i : Nat) {x : Str} {pos : Pos} (hi : N[i]? = some x := by rfl) (hx : sc.names.lookup x = some .local ∨ (B = true ∧ sc.names.lookup x = some .cell) := by first | exact .inl rfl | exact .inr ⟨rfl, rfl⟩) : PG X (.Name x pos) (gName i) := by
  rcases hx with hx | ⟨hB, hx⟩
  · exact pg_name (by rw [c.N]; exact c.nd) (by rw [c.N]; exact hi) (.inl (c.loc hx)) (.inr (c.loc hx))
  · exact pg_name (by rw [c.N]; exact c.nd) (by rw [c.N]; exact hi) (.inr (by rw [c.sc]; exact hx)) (.inl (c.fn hB x))
theorem es_asg {K : PySem.W.Frag} {i : Nat} (h : EvD K te ρ π d π1) (k : C.nx (ρ.set i (.val d)) π1) : EvS K (tAsg te (gName i)) ρ π C := fun w H σ D R n r b t =>
  h w H σ R _ fun v H1 e1 p1 q1 => n w.ad _ _ _ _ k ((R.step e1 p1).set q1)
theorem ps_setG (c : Cz G k N sc B X) (i : Nat) {x : Str} {pos' : Pos} (he : PE X e te) (hi : N[i]? = some x := by rfl) (hx : sc.names.lookup x = some .local ∨ (B = true ∧ sc.names.lookup x = some .cell) := by first | exact .inl rfl | exact .inr ⟨rfl, rfl⟩)
    (hs : swapsWith e (some (.Name x pos')) pos.line X.env = pure false := by rfl) : PS X (.Assign [.Name x pos'] e pos) (tAsg te (gName i)) := by
  rcases hx with hx | ⟨hB, hx⟩
  · exact ps_set (by rw [c.N]; exact c.nd) (by rw [c.N]; exact hi) (.inl (c.loc hx)) he hs (.inr (c.loc hx))
  · exact ps_set (by rw [c.N]; exact c.nd) (by rw [c.N]; exact hi) (.inr (by rw [c.sc]; exact hx)) he hs (.inl (c.fn hB x))
/-- x = e -/
theorem js_asg (c : Cz G k N sc B X) (i : Nat) {x : Str} {pos' : Pos} (he : JE G.K g X e te ρ π d π1) (k : g → C.nx (ρ.set i (.val d)) π1 := by exact fun _ => ⟨rfl, rfl⟩) (hi : N[i]? = some x := by rfl) (hx : sc.names.lookup x = some .local ∨ (B = true ∧ sc.names.lookup x = some .cell) := by first | exact .inl rfl | exact .inr ⟨rfl, rfl⟩)
    (hs : swapsWith e (some (.Name x pos')) pos.line X.env = pure false := by rfl) : JS G.K g X (.Assign [.Name x pos'] e pos) (tAsg te (gName i)) ρ π C := ⟨ps_setG c i he.pe hi hx hs, fun q => es_asg (he.ev q) (k q)⟩
theorem es_asgL {K : PySem.W.Frag} {i : Nat} {ds : List PyData} (hi : i < ρ.length) (h : EvL K te ρ π ds π1) (k : C.nx (ρ.set i (.own ds)) π1) : EvS K (tAsg te (gName i)) ρ π C := fun w H σ D R n r b t =>
  h w H σ R _ fun p xs H1 e1 p1 hn hp ha => by
    have R1 := R.step e1 p1
    have hi' : i < (ρ.set i .un).length := by rw [List.length_set]; exact hi
    have nm : ¬ w.M (ρ.set i .un) p := fun m => R.domH (M_set_le nU m) hn
    have h0 : w.H0 p = none := by
      cases q : w.H0 p with
      | none => rfl
      | some o =>
        by_cases c : w.P = some p
        · have z := R.pot p c
          rw [hn] at z; cases z
        · have z := R.ext p o c q
          rw [hn] at z; cases z
    -- what is told in H1 is told beside p too
    have R2 : Rel K w ρ π1 (fun a => if a = p then none else H1 a) σ := R.step (fun b o c eb => by
      have z : b ≠ p := fun z => by rw [z, hn] at eb; cases eb
      show (if b = p then none else H1 b) = some o
      rw [if_neg z]; exact e1 b o c eb) (fun q eq => by
      have z : q ≠ p := fun z => by
        have y := R.pot q eq
        rw [z, hn] at y; cases y
      show (if q = p then none else H1 q) = _
      rw [if_neg z]; exact p1 q eq)
    have W1 := R1.wipe1 (i := i) (x := some (V.ref p))
    have W2 := R2.wipe1 (i := i) (x := some (V.ref p))
    have up : Same (mask (w.M (ρ.set i .un)) (fun a => if a = p then none else H1 a)) (mask ((w.at i p).M (ρ.set i (.own ds))) H1) := fun b o eb => by
      obtain ⟨nb, eb⟩ := mask_some eb
      by_cases z : b = p
      · rw [if_pos z] at eb; cases eb
      · rw [if_neg z] at eb
        rw [mask_out (fun m => by
          rcases (M_at (s := .own ds) hi trivial).mp m with y | y
          · exact z y
          · exact nb y)]
        exact eb
    refine n (w.at i p).ad _ _ _ _ k ?_
    show Rel K (w.at i p) (ρ.set i (.own ds)) π1 H1 (σ.set i (some (.ref p)))
    have get : ∀ {j : Nat} {t : Sl}, (ρ.set i (.own ds))[j]? = some t → (i = j ∧ t = .own ds) ∨ (i ≠ j ∧ (ρ.set i .un)[j]? = some t) := fun {j t} h => by
      by_cases c : i = j
      · subst c; exact .inl ⟨rfl, get_set_some h⟩
      · rw [List.getElem?_set_ne c] at h
        exact .inr ⟨c, by rw [List.getElem?_set_ne c]; exact h⟩
    have own : ∀ {j : Nat}, i ≠ j → ownAt (ρ.set i (.own ds)) j → ownAt (ρ.set i .un) j := fun c h => (h.of_set_ne c).set_ne c
    have hiσ : i < σ.length := by rw [R.len]; exact hi
    refine ⟨W1.len.trans (by rw [List.length_set, List.length_set]), R.potL, p1, R1.ext, R1.domL, fun j h => ?_, fun j h => ?_, fun j l hj hl e => ?_, fun j d h => ?_, fun j es h => ?_, fun j kvs h => ?_, fun j h => ?_⟩
    · by_cases c : i = j
      · subst c; rw [Wd.at_self]; exact fun z => nm (.inl z)
      · rw [Wd.at_ne (Ne.symm c)]; exact W1.disj j (own c h)
    · by_cases c : i = j
      · subst c; rw [Wd.at_self]; exact h0
      · rw [Wd.at_ne (Ne.symm c)]; exact W1.own0 j (own c h)
    · by_cases c : i = j
      · by_cases c' : i = l
        · exact c.symm.trans c'
        · rw [← c, Wd.at_self, Wd.at_ne (Ne.symm c')] at e
          exact absurd (.inr ⟨l, own c' hl, e⟩) nm
      · by_cases c' : i = l
        · rw [← c', Wd.at_self, Wd.at_ne (Ne.symm c)] at e
          exact absurd (.inr ⟨j, own c hj, e.symm⟩) nm
        · rw [Wd.at_ne (Ne.symm c), Wd.at_ne (Ne.symm c')] at e
          exact W1.inj j l (own c hj) (own c' hl) e
    · rcases get h with ⟨c, q⟩ | ⟨c, q⟩
      · cases q
      · obtain ⟨v, h1, h2⟩ := W2.vals j d q
        exact ⟨v, h1, Dp.up up _ h2⟩
    · rcases get h with ⟨c, q⟩ | ⟨c, q⟩
      · subst c
        cases q
        refine ⟨xs, by rw [Wd.at_self]; exact List.getElem?_set_self hiσ, by rw [Wd.at_self]; exact hp, DpAll.up (fun b o eb => ?_) _ ha⟩
        obtain ⟨nb, eb⟩ := mask_some eb
        rw [mask_out (fun m => by
          rcases (M_at (s := .own ds) hi trivial).mp m with y | y
          · exact nb (.inr y)
          · exact nb (.inl (M_set_le nU y)))]
        exact eb
      · obtain ⟨ys, h1, h2, h3⟩ := W2.owns j es q
        by_cases z : w.ad j = p
        · rw [if_pos z] at h2; cases h2
        · rw [if_neg z] at h2
          exact ⟨ys, by rw [Wd.at_ne (Ne.symm c)]; exact h1, by rw [Wd.at_ne (Ne.symm c)]; exact h2, DpAll.up up _ h3⟩
    · rcases get h with ⟨c, q⟩ | ⟨c, q⟩
      · cases q
      · obtain ⟨h1, h2⟩ := W1.dics j kvs q
        exact ⟨by rw [Wd.at_ne (Ne.symm c)]; exact h1, by rw [Wd.at_ne (Ne.symm c)]; exact h2⟩
    · rcases get h with ⟨c, q⟩ | ⟨c, q⟩
      · cases q
      · exact W1.pots j q
/-- x = a new list that the def will change -/
theorem js_asgL (c : Cz G k N sc B X) (i : Nat) {x : Str} {pos' : Pos} {ds : List PyData} (he : JL G.K g X e te ρ π ds π1) (hi : i < ρ.length := by exact Nat.le_of_ble_eq_true rfl) (k : g → C.nx (ρ.set i (.own ds)) π1 := by exact fun _ => ⟨rfl, rfl⟩) (hN : N[i]? = some x := by rfl) (hx : sc.names.lookup x = some .local ∨ (B = true ∧ sc.names.lookup x = some .cell) := by first | exact .inl rfl | exact .inr ⟨rfl, rfl⟩)
    (hs : swapsWith e (some (.Name x pos')) pos.line X.env = pure false := by rfl) : JS G.K g X (.Assign [.Name x pos'] e pos) (tAsg te (gName i)) ρ π C := ⟨ps_setG c i he.pe hN hx hs, fun q => es_asgL hi (he.ev q) (k q)⟩
theorem js_ret (h : JE G.K g X e te ρ π d π1) (k : g → C.rt d π1) (hx : ∀ v H, C.rx v H := by exact fun _ _ => trivial) : JS G.K g X (.Return (some e) pos) (tRet te) ρ π C := ⟨ps_ret h.pe, fun q w H σ D R n r b t =>
  h.ev q w H σ R _ fun v H1 e1 p1 q1 => r v d π1 H1 (k q) (hx _ _) (R.step e1 p1).ext p1 (Dp.up (mask_mono fun a o n h => ⟨fun m => n (.inl m), h⟩) _ q1)⟩
theorem js_retN (k : g → C.rt .none π) (hx : ∀ v H, C.rx v H := by exact fun _ _ => trivial) : JS G.K g X (.Return none pos) tRetN ρ π C := ⟨ps_retN, fun q w H σ D R n r b t => r .non .none π H (k q) (hx _ _) R.ext R.pot .non⟩
theorem js_never (h : g → False) : JS G.K g X st tNever ρ π C := ⟨ps_never, fun q => (h q).elim⟩
theorem jss_never {sts : List Stmt} (h : g → False) : JSs G.K g X sts tNever ρ π C := ⟨pss_never, fun q => (h q).elim⟩
theorem js_break (k : g → C.bk ρ π) : JS G.K g X (.Break pos) tBreak ρ π C := ⟨ps_break, fun q w H σ D R n r b t => b w.ad ρ π H σ (k q) R⟩
theorem js_continue (k : g → C.ct ρ π) : JS G.K g X (.Continue pos) tCont ρ π C := ⟨ps_continue, fun q w H σ D R n r b t => t w.ad ρ π H σ (k q) R⟩
/-- if -/
theorem js_if {a b : List Stmt} {tt : TT} {ta tb : TS} {x : Bool} (ht : JT G.K g X e tt ρ π x π1) (ha : JSs G.K (g ∧ x = true) X a ta ρ π1 C) (hb : JSs G.K (g ∧ x = false) X b tb ρ π1 C) : JS G.K g X (.If e a b pos) (tIfS tt ta tb) ρ π C :=
  ⟨ps_if ht.pt ha.pss hb.pss, fun q w H σ D R n r bb t => ht.ev q w H σ R _ fun H1 e1 p1 => by
    have R1 := R.step e1 p1
    cases x with
    | true =>
      show ta D σ H1
      exact ha.ev ⟨q, rfl⟩ w H1 σ D R1 n r bb t
    | false =>
      show tb D σ H1
      exact hb.ev ⟨q, rfl⟩ w H1 σ D R1 n r bb t⟩
/-- if, whose suite does not go on; then the rest -/
theorem jss_if {a : List Stmt} {tt : TT} {ta : TS} {x : Bool} (ht : JT G.K g X e tt ρ π x π1) (ha : JSs G.K (g ∧ x = true) X a ta ρ π1 { C with nx := fun _ _ => False }) (hr : JSs G.K (g ∧ x = false) X rest tr ρ π1 C) :
    JSs G.K g X (.If e a [] pos :: rest) (tSeq (tIfS tt ta tNext) tr) ρ π C :=
  ⟨pss_cons (ps_if ht.pt ha.pss pss_nil) hr.pss, fun q w H σ D R n r bb t => ht.ev q w H σ R _ fun H1 e1 p1 => by
    have R1 := R.step e1 p1
    cases x with
    | true =>
      show ta { D with nx := tr D } σ H1
      exact ha.ev ⟨q, rfl⟩ w H1 σ { D with nx := tr D } R1 (fun _ _ _ _ _ z => z.elim) r bb t
    | false =>
      show tr D σ H1
      exact hr.ev ⟨q, rfl⟩ w H1 σ D R1 n r bb t⟩
/-- an expression, its value dropped -/
theorem js_drop (h : JE G.K g X e te ρ π d π1) (k : g → C.nx ρ π1) (hs : swapsWith e none pos.line X.env = pure false := by rfl) : JS G.K g X (.Expr e pos) (tDrop te) ρ π C := ⟨ps_expr h.pe hs, fun q w H σ D R n r b t =>
  h.ev q w H σ R _ fun v H1 e1 p1 q1 => n w.ad ρ π1 H1 σ (k q) (R.step e1 p1)⟩
end
end JD

/-! ## JDLoops -/
set_option Elab.async false
set_option linter.all false
set_option maxRecDepth 100000
set_option maxHeartbeats 2000000
/-! JD: what is walked, loops, comprehensions, a def's body -/
namespace JD
open PySem PySem.Spec PyProof.Rows L2

/-! ### what is walked: n items, the i-th is it i -/
def WalkD (K : PySem.W.Frag) (S : Hp) (J : It) (n : Nat) (it : Nat → PyData) : Prop :=
  Walk J n (fun H => Same S H) (fun i H x H' => Same H H' ∧ ∀ M : Addr → Prop, (∀ a, M a → H a ≠ none) → Same S (mask M H) → Dp K (mask M H') x (it i))
def EvI (K : PySem.W.Frag) (wi : TI) (ρ : List Sl) (π : Pot) (n : Nat) (it : Nat → PyData) (π' : Pot) : Prop := ∀ (w : Wd) (H : Hp) (σ : L2.St), Rel K w ρ π H σ → ∀ R : It → Hp → Prop,
  (∀ J H1, Ext w.P H H1 → potAt w.P π' H1 → WalkD K (mask (w.M ρ) H1) J n it → R J H1) → wi σ H R
/-- a target: where the item is d the slots are ρ' behind it -/
def EvG (K : PySem.W.Frag) (g : TG) (ρ : List Sl) (d : PyData) (ρ' : List Sl) : Prop := ∀ (w : Wd) (π : Pot) (H : Hp) (σ : L2.St) (v : V), Rel K w ρ π H σ → Dp K (mask (w.M ρ) H) v d → ∀ Q : L2.St → Hp → Prop,
  (∀ σ', Rel K w ρ' π H σ' → Q σ' H) → g v σ H Q
/-- a target that stores in the slots of vs alone -/
def WipeG (g : TG) (vs : List Nat) : Prop := ∀ (v : V) (σ : L2.St) (H : Hp) (Q : L2.St → Hp → Prop), g v σ H Q → g v σ H fun σ' H' => wipe σ' vs = wipe σ vs ∧ Q σ' H'
structure JI (K : PySem.W.Frag) (g : Prop) (X : Cx) (tg e : Expr) (wi : TI) (ρ : List Sl) (π : Pot) (n : Nat) (it : Nat → PyData) (π' : Pot) : Prop where
  pi : PI X tg e wi
  ev : g → EvI K wi ρ π n it π'
section
variable {K : PySem.W.Frag} {ρ : List Sl} {π π1 : Pot} {te : TE}
theorem wk_list {S : Hp} {a : Addr} {xs : List V} {ds : List PyData} (h : SqL K S a xs) (hd : DpAll K S xs ds) : WalkD K S (Itl K a) ds.length (fun i => ds.getD i .none) := by
  rw [← hd.len]
  refine (walk_list (K := K) (a := a) (xs := xs)).mono (fun H s => s.seq h) fun i H x H' hi s y => ?_
  obtain ⟨e, hx⟩ := y
  subst e
  refine ⟨Same.refl _, fun M _ sm => ?_⟩
  obtain ⟨d, h1, h2⟩ := hd.getV hx
  show Dp K (mask M H') x (ds.getD i .none)
  rw [List.getD_eq_getElem?_getD, h1]
  exact Dp.up sm _ h2
theorem wk_tup {S : Hp} {a : Addr} {xs : List V} {ds : List PyData} (h : SqT K S a xs) (hd : DpAll K S xs ds) : WalkD K S (Itt K a) ds.length (fun i => ds.getD i .none) := by
  rw [← hd.len]
  refine (walk_tup (K := K) (a := a) (xs := xs)).mono (fun H s => ?_) fun i H x H' hi s y => ?_
  · rcases h with (h | ⟨o, h⟩) | h
    · exact .inl (.inl (s _ _ h))
    · exact .inl (.inr ⟨o, s _ _ h⟩)
    · exact .inr h
  · obtain ⟨e, hx⟩ := y
    subst e
    refine ⟨Same.refl _, fun M _ sm => ?_⟩
    obtain ⟨d, h1, h2⟩ := hd.getV hx
    show Dp K (mask M H') x (ds.getD i .none)
    rw [List.getD_eq_getElem?_getD, h1]
    exact Dp.up sm _ h2
theorem SqT.up {K : PySem.W.Frag} {H H' : Hp} {a : Addr} {xs : List V} (s : Same H H') (h : SqT K H a xs) : SqT K H' a xs := by
  rcases h with (h | ⟨o, h⟩) | h
  · exact .inl (.inl (s _ _ h))
  · exact .inl (.inr ⟨o, s _ _ h⟩)
  · exact .inr h
theorem ei_list {ds : List PyData} (h : EvD K te ρ π (.list ds) π1) : EvI K (iList K te) ρ π ds.length (fun i => ds.getD i .none) π1 := fun w H σ R Q q =>
  h w H σ R _ fun v H1 e1 p1 q1 => by
    cases q1 with
    | lst a b => exact ⟨_, rfl, ⟨_, (mask_same _ _).seq a⟩, q _ H1 e1 p1 (wk_list a b)⟩
theorem ei_tup {ds : List PyData} (h : EvD K te ρ π (.tuple ds) π1) : EvI K (iTup K te) ρ π ds.length (fun i => ds.getD i .none) π1 := fun w H σ R Q q =>
  h w H σ R _ fun v H1 e1 p1 q1 => by
    cases q1 with
    | tup a b =>
      exact ⟨_, rfl, ⟨_, SqT.up (mask_same _ _) a⟩, q _ H1 e1 p1 (wk_tup a b)⟩
theorem ei_str {x : Str} (h : EvD K te ρ π (.str x) π1) : EvI K (iStr te) ρ π x.cps.size (fun i => .str ⟨#[x.cps.getD i 0]⟩) π1 := fun w H σ R Q q =>
  h w H σ R _ fun v H1 e1 p1 q1 => by
    cases q1
    refine ⟨x, rfl, q _ H1 e1 p1 ?_⟩
    refine (walk_str (z := x)).mono (fun _ _ => trivial) fun i H x' H' hi _ y => ?_
    obtain ⟨e, c, hc, hv⟩ := y
    subst e hv
    refine ⟨Same.refl _, fun M _ _ => ?_⟩
    have e2 : x.cps.getD i 0 = c := by
      rw [Array.getD_eq_getD_getElem?, hc]; rfl
    show Dp K _ _ (.str ⟨#[x.cps.getD i 0]⟩)
    rw [e2]
    exact .str _
theorem ei_rng1 {ta : TA} {j : Int} (h : EvA K ta ρ π [.d (.int j)] π1) (hj : -(2 ^ 62) ≤ j ∧ j < 2 ^ 62) : EvI K (iRng1 ta) ρ π j.toNat (fun i => .int (i : Int)) π1 := fun w H σ R Q q =>
  h w H σ R _ fun vs H1 e1 p1 q1 => by
    have q2 : DpAll K _ vs [.int j] := AgAll.data (ds := [.int j]) q1
    cases q2 with
    | cons a b =>
      cases a
      cases b
      refine ⟨j, rfl, hj.1, hj.2, q _ H1 e1 p1 ?_⟩
      refine (walk_range (lo := 0) (n := j.toNat)).mono (fun _ _ => trivial) fun i H x H' hi _ y => ?_
      obtain ⟨e, hx⟩ := y
      subst e hx
      refine ⟨Same.refl _, fun M _ _ => ?_⟩
      show Dp K _ (.int ((0 : Int) + (i : Int))) (.int (i : Int))
      rw [Int.zero_add]
      exact .int _
theorem ei_rng2 {ta : TA} {lo j : Int} (h : EvA K ta ρ π [.d (.int lo), .d (.int j)] π1) (hj : -(2 ^ 62) ≤ lo ∧ lo < 2 ^ 62 ∧ -(2 ^ 62) ≤ j ∧ j < 2 ^ 62) : EvI K (iRng2 ta) ρ π (j - lo).toNat (fun i => .int (lo + (i : Int))) π1 := fun w H σ R Q q =>
  h w H σ R _ fun vs H1 e1 p1 q1 => by
    have q2 : DpAll K _ vs [.int lo, .int j] := AgAll.data (ds := [.int lo, .int j]) q1
    cases q2 with
    | cons a b =>
      cases a
      cases b with
      | cons a' b' =>
        cases a'
        cases b'
        refine ⟨lo, j, rfl, hj, q _ H1 e1 p1 ?_⟩
        refine (walk_range (lo := lo) (n := (j - lo).toNat)).mono (fun _ _ => trivial) fun i H x H' hi _ y => ?_
        obtain ⟨e, hx⟩ := y
        subst e hx
        exact ⟨Same.refl _, fun M _ _ => .int _⟩
/-- range(lo, j, -1) -/
theorem ei_rngD {ta : TA} {lo j : Int} (h : EvA K ta ρ π [.d (.int lo), .d (.int j), .d (.int (-1))] π1) (hj : -(2 ^ 62) ≤ lo ∧ lo < 2 ^ 62 ∧ -(2 ^ 62) ≤ j ∧ j < 2 ^ 62) : EvI K (iRng3 ta) ρ π (lo - j).toNat (fun i => .int (lo - (i : Int))) π1 := fun w H σ R Q q =>
  h w H σ R _ fun vs H1 e1 p1 q1 => by
    have q2 : DpAll K _ vs [.int lo, .int j, .int (-1)] := AgAll.data (ds := [.int lo, .int j, .int (-1)]) q1
    cases q2 with
    | cons a b =>
      cases a
      cases b with
      | cons a' b' =>
        cases a'
        cases b' with
        | cons a'' b'' =>
          cases a''
          cases b''
          refine ⟨lo, j, -1, (lo - j).toNat, rfl, RgC.neg hj.1 hj.2.1 hj.2.2.1 hj.2.2.2, q _ H1 e1 p1 ?_⟩
          refine (walk_rangeC (lo := lo) (c := -1) (n := (lo - j).toNat)).mono (fun _ _ => trivial) fun i H x H' hi _ y => ?_
          obtain ⟨e, hx⟩ := y
          subst e hx
          refine ⟨Same.refl _, fun M _ _ => ?_⟩
          show Dp K _ (.int (lo + (i : Int) * -1)) (.int (lo - (i : Int)))
          rw [show lo + (i : Int) * -1 = lo - (i : Int) by omega]
          exact .int _
/-! ### targets -/
theorem eg_name {j : Nat} {d : PyData} : EvG K (gName j) ρ d (ρ.set j (.val d)) := fun w π H σ v R h Q q => q _ (R.set h)
theorem eg_tup2 {j1 j2 : Nat} {d1 d2 : PyData} : EvG K (gTup K 2 (gCons (gName j1) (gCons (gName j2) gNil))) ρ (.tuple [d1, d2]) ((ρ.set j1 (.val d1)).set j2 (.val d2)) := fun w π H σ v R h Q q => by
  cases h with
  | tup a b =>
    cases b with
    | cons h1 b =>
      cases b with
      | cons h2 b =>
        cases b
        have R1 := R.set (i := j1) h1
        exact ⟨_, _, rfl, SqT.up (mask_same _ _) a, rfl, _, _, rfl, _, _, rfl, rfl, q _ (R1.set (i := j2) (Dp.up (mask_mono fun a o n h => ⟨fun m => n (M_set_le nV m), h⟩) _ h2))⟩
theorem eg_tup3 {j1 j2 j3 : Nat} {d1 d2 d3 : PyData} : EvG K (gTup K 3 (gCons (gName j1) (gCons (gName j2) (gCons (gName j3) gNil)))) ρ (.tuple [d1, d2, d3]) (((ρ.set j1 (.val d1)).set j2 (.val d2)).set j3 (.val d3)) := fun w π H σ v R h Q q => by
  cases h with
  | tup a b =>
    cases b with
    | cons h1 b =>
      cases b with
      | cons h2 b =>
        cases b with
        | cons h3 b =>
          cases b
          have R1 := R.set (i := j1) h1
          have u1 : ∀ {d : PyData} {v : V}, Dp K (mask (w.M ρ) H) v d → Dp K (mask (w.M (ρ.set j1 (.val d1))) H) v d := fun h => Dp.up (mask_mono fun a o n h => ⟨fun m => n (M_set_le nV m), h⟩) _ h
          have R2 := R1.set (i := j2) (u1 h2)
          exact ⟨_, _, rfl, SqT.up (mask_same _ _) a, rfl, _, _, rfl, _, _, rfl, _, _, rfl, rfl, q _ (R2.set (i := j3) (Dp.up (mask_mono fun a o n h => ⟨fun m => n (M_set_le nV m), h⟩) _ (u1 h3)))⟩
theorem wipe_get (σ : L2.St) : ∀ (vs : List Nat) (k : Nat), (wipe σ vs)[k]? = if k ∈ vs ∧ k < σ.length then some none else σ[k]?
  | [], k => by rw [if_neg (fun z => by simp at z)]; rfl
  | v :: vs, k => by
    show ((wipe σ vs).set v none)[k]? = _
    by_cases c : v = k
    · subst c
      by_cases hv : v < σ.length
      · rw [List.getElem?_set_self (by rw [wipe_length]; exact hv), if_pos ⟨List.mem_cons_self, hv⟩]
      · rw [List.getElem?_eq_none (by rw [List.length_set, wipe_length]; omega), if_neg (fun z => hv z.2), List.getElem?_eq_none (by omega)]
    · rw [List.getElem?_set_ne c, wipe_get σ vs k]
      by_cases h : k ∈ vs ∧ k < σ.length
      · rw [if_pos h, if_pos ⟨List.mem_cons_of_mem _ h.1, h.2⟩]
      · rw [if_neg h, if_neg (fun z => h ⟨(List.mem_cons.mp z.1).resolve_left (fun e => c e.symm), z.2⟩)]
theorem wipe_set {σ : L2.St} {vs : List Nat} {j : Nat} {x : Option V} (h : j ∈ vs) : wipe (σ.set j x) vs = wipe σ vs := by
  refine List.ext_getElem? fun k => ?_
  rw [wipe_get, wipe_get, List.length_set]
  by_cases c : k ∈ vs ∧ k < σ.length
  · rw [if_pos c, if_pos c]
  · rw [if_neg c, if_neg c]
    by_cases e : j = k
    · subst e
      have hk : ¬ j < σ.length := fun z => c ⟨h, z⟩
      rw [List.getElem?_eq_none (by rw [List.length_set]; omega), List.getElem?_eq_none (by omega)]
    · rw [List.getElem?_set_ne e]
theorem wipe_wipe {σ : L2.St} {vs : List Nat} : wipe (wipe σ vs) vs = wipe σ vs := by
  refine List.ext_getElem? fun k => ?_
  rw [wipe_get, wipe_length, wipe_get]
  by_cases c : k ∈ vs ∧ k < σ.length
  · rw [if_pos c, if_pos c]
  · rw [if_neg c, if_neg c]
theorem wg_name {j : Nat} {vs : List Nat} (h : j ∈ vs) : WipeG (gName j) vs := fun v σ H Q q => ⟨wipe_set h, q⟩
theorem wg_tup2 {n j1 j2 : Nat} {vs : List Nat} (h1 : j1 ∈ vs) (h2 : j2 ∈ vs) : WipeG (gTup K n (gCons (gName j1) (gCons (gName j2) gNil))) vs := fun v σ H Q ⟨a, xs, e1, e2, e3, v1, r1, e4, v2, r2, e5, e6, q⟩ =>
  ⟨a, xs, e1, e2, e3, v1, r1, e4, v2, r2, e5, e6, (wipe_set h2).trans (wipe_set h1), q⟩
theorem wg_tup3 {n j1 j2 j3 : Nat} {vs : List Nat} (h1 : j1 ∈ vs) (h2 : j2 ∈ vs) (h3 : j3 ∈ vs) : WipeG (gTup K n (gCons (gName j1) (gCons (gName j2) (gCons (gName j3) gNil)))) vs := fun v σ H Q ⟨a, xs, e1, e2, e3, v1, r1, e4, v2, r2, e5, v3, r3, e6, e7, q⟩ =>
  ⟨a, xs, e1, e2, e3, v1, r1, e4, v2, r2, e5, v3, r3, e6, e7, (wipe_set h3).trans ((wipe_set h2).trans (wipe_set h1)), q⟩
/-! ### for -/
theorem mask_here {w : Wd} {H : Hp} {σ : L2.St} (R : Rel K w ρ π H σ) : Same (mask (w.M ρ) H) (w.here ρ H).H0 := fun b o e => by
  obtain ⟨n, e⟩ := mask_some e
  rw [here_eq, mask_out (fun z => n (.inr z))]
  exact e
theorem es_for {wi : TI} {g : TG} {tb : TS} {n : Nat} {it : Nat → PyData} {C : Cont} (Iv : Nat → List Sl → Pot → Prop) (hI : EvI K wi ρ π n it π1) (h0 : Iv 0 ρ π1)
    (hs : ∀ i ρ' π', i < n → Iv i ρ' π' → ∃ ρ2, EvG K g ρ' (it i) ρ2 ∧ EvS K tb ρ2 π' { nx := Iv (i + 1), ct := Iv (i + 1), bk := C.nx, rt := C.rt, rx := C.rx }) (hd : ∀ ρ' π', Iv n ρ' π' → C.nx ρ' π') : EvS K (tFor wi g tb) ρ π C := fun w H σ D R n' r b t => by
  refine hI w H σ R _ fun J H1 e1 p1 wk => ?_
  have R1 := R.step e1 p1
  have Rh := R1.here
  have sameOf : ∀ {ad : Nat → Addr} {ρ' : List Sl} {π' : Pot} {H' : Hp} {σ' : L2.St}, Rel K { w.here ρ H1 with ad := ad } ρ' π' H' σ' → Same (mask (w.M ρ) H1) H' := fun {ad ρ' π' H' σ'} R' b o e => by
    have q := mask_here R1 b o e
    refine R'.ext b o (fun z => ?_) q
    exact (mask_some e).1 (R1.potM z)
  have sameM : ∀ {ad : Nat → Addr} {ρ' : List Sl} {π' : Pot} {H' : Hp} {σ' : L2.St}, Rel K { w.here ρ H1 with ad := ad } ρ' π' H' σ' → Same (mask (w.M ρ) H1) (mask (Wd.M { w.here ρ H1 with ad := ad } ρ') H') := fun {ad ρ' π' H' σ'} R' b o e => by
    have q := mask_here R1 b o e
    rw [mask_out (fun m => by
      rcases m with m | ⟨i, hi, z⟩
      · exact (mask_some e).1 (.inl m)
      · have y := R'.own0 i hi
        have z : b = ad i := z
        rw [z] at q
        have y : (w.here ρ H1).H0 (ad i) = none := y
        rw [y] at q; cases q)]
    exact sameOf R' b o e
  refine for_it wk (fun i σ' H' => ∃ ad ρ' π', Iv i ρ' π' ∧ Rel K { w.here ρ H1 with ad := ad } ρ' π' H' σ') ⟨w.ad, ρ, π1, h0, Rh⟩ (fun i σ' H' _ ⟨ad, ρ', π', _, R'⟩ => sameOf R') (fun i x σ' H' H'' hi ⟨ad, ρ', π', hv, R'⟩ ⟨s1, s2⟩ => ?_) (fun σ' H' ⟨ad, ρ', π', hv, R'⟩ => n' ad ρ' π' H' σ' (hd ρ' π' hv) (R1.back R'))
  obtain ⟨ρ2, hg, hb⟩ := hs i ρ' π' hi hv
  have R2 := R'.step (π' := π') (.of s1) (R'.pot.same s1)
  refine hg _ π' H'' σ' x R2 (s2 _ (fun a m => R'.domH m) (sameM R')) _ fun σ2 R3 => ?_
  refine hb _ H'' σ2 _ R3 (fun ad' ρ3 π3 H3 σ3 c R4 => ⟨ad', ρ3, π3, c, R4⟩) (fun v d π3 H3 c cx e p h => r v d π3 H3 c cx (fun b o n y => e b o n (here_H0 R1 b o n y)) p h) (fun ad' ρ3 π3 H3 σ3 c R4 => n' ad' ρ3 π3 H3 σ3 c (R1.back R4)) (fun ad' ρ3 π3 H3 σ3 c R4 => ⟨ad', ρ3, π3, c, R4⟩)
theorem es_while {tc : TT} {tb : TS} {C : Cont} (Iv : Nat → List Sl → Pot → Prop) (m0 : Nat) (h0 : Iv m0 ρ π)
    (hs : ∀ m ρ' π', Iv m ρ' π' → ∃ (b : Bool) (π2 : Pot), EvT K tc ρ' π' b π2 ∧ (b = true → EvS K tb ρ' π2 { nx := fun ρ3 π3 => ∃ m', m' < m ∧ Iv m' ρ3 π3, ct := fun ρ3 π3 => ∃ m', m' < m ∧ Iv m' ρ3 π3, bk := C.nx, rt := C.rt, rx := C.rx }) ∧ (b = false → C.nx ρ' π2)) : EvS K (tWhile tc tb) ρ π C := fun w H σ D R n' r b t => by
  refine ⟨fun m σ' H' => ∃ ad ρ' π', Iv m ρ' π' ∧ Rel K { w with ad := ad } ρ' π' H' σ', ⟨m0, w.ad, ρ, π, h0, R⟩, fun m σ' H' ⟨ad, ρ', π', hv, R'⟩ => ?_⟩
  obtain ⟨x, π2, ht, h1, h2⟩ := hs m ρ' π' hv
  refine ht _ H' σ' R' _ fun H1 e1 p1 => ?_
  have R1 := R'.step e1 p1
  cases x with
  | true =>
    rw [if_pos rfl]
    refine ⟨fun σ3 H3 => ∃ ad ρ3 π3 m', m' < m ∧ Iv m' ρ3 π3 ∧ Rel K { w with ad := ad } ρ3 π3 H3 σ3, fun σ3 H3 ⟨ad3, ρ3, π3, m', hm, hv, R3⟩ => ⟨m', hm, ad3, ρ3, π3, hv, R3⟩, ?_⟩
    exact h1 rfl _ H1 σ' _ R1 (fun ad3 ρ3 π3 H3 σ3 ⟨m', hm, hv⟩ R3 => ⟨ad3, ρ3, π3, m', hm, hv, R3⟩) r (n'.at ad) (fun ad3 ρ3 π3 H3 σ3 ⟨m', hm, hv⟩ R3 => ⟨ad3, ρ3, π3, m', hm, hv, R3⟩)
  | false =>
    rw [if_neg Bool.false_ne_true]
    exact n' ad ρ' π2 H1 σ' (h2 rfl) R1
end
end JD

/-! ## JDMore -/
set_option Elab.async false
set_option linter.all false
set_option maxRecDepth 100000
set_option maxHeartbeats 2000000
/-! JD: comprehensions, loops as rules, several targets, changes of own lists and of the pot, a def's body -/
namespace JD
open PySem PySem.Spec PyProof.Rows L2

section
variable {K : PySem.W.Frag} {w : Wd} {ρ : List Sl} {π π' π1 π2 π3 : Pot} {H H' : Hp} {σ : L2.St}
/-! ### a new list that is held beside -/
def Wd.hold (w : Wd) (p : Addr) : Wd := ⟨w.P, fun a => w.L0 a ∨ a = p, w.H0, w.ad⟩
theorem hold_M {p a : Addr} : (w.hold p).M ρ a ↔ (w.M ρ a ∨ a = p) := by
  constructor
  · rintro ((h | h) | h)
    · exact .inl (.inl h)
    · exact .inr h
    · exact .inl (.inr h)
  · rintro ((h | h) | h)
    · exact .inl (.inl h)
    · exact .inr h
    · exact .inl (.inr h)
theorem Rel.h0 (R : Rel K w ρ π H σ) {p : Addr} (hn : H p = none) : w.H0 p = none := by
  cases q : w.H0 p with
  | none => rfl
  | some o =>
    by_cases c : w.P = some p
    · have z := R.pot p c
      rw [hn] at z; cases z
    · have z := R.ext p o c q
      rw [hn] at z; cases z
theorem Rel.hold (R : Rel K w ρ π H σ) (e : Ext w.P H H') (hp : potAt w.P π' H') {p : Addr} (hn : H p = none) (h1 : H' p ≠ none) : Rel K (w.hold p) ρ π' H' σ := by
  have R2 : Rel K w ρ π' (fun a => if a = p then none else H' a) σ := R.step (fun b o c eb => by
    have z : b ≠ p := fun z => by rw [z, hn] at eb; cases eb
    show (if b = p then none else H' b) = some o
    rw [if_neg z]; exact e b o c eb) (fun q eq => by
    have z : q ≠ p := fun z => by
      have y := R.pot q eq
      rw [z, hn] at y; cases y
    show (if q = p then none else H' q) = _
    rw [if_neg z]; exact hp q eq)
  have up : Same (mask (w.M ρ) (fun a => if a = p then none else H' a)) (mask ((w.hold p).M ρ) H') := fun b o eb => by
    obtain ⟨nb, eb⟩ := mask_some eb
    by_cases z : b = p
    · rw [if_pos z] at eb; cases eb
    · rw [if_neg z] at eb
      rw [mask_out (fun m => (hold_M.mp m).elim nb z)]
      exact eb
  have R1 := R.step e hp
  refine ⟨R.len, fun q eq => .inl (R.potL q eq), hp, R1.ext, fun a h => ?_, fun i h z => ?_, R1.own0, R1.inj, fun i d h => ?_, fun i ds h => ?_, R1.dics, R1.pots⟩
  · rcases h with h | h
    · exact R1.domL a h
    · rw [h]; exact h1
  · rcases z with z | z
    · exact R1.disj i h z
    · have y : H (w.ad i) ≠ none := R.domH (.inr ⟨i, h, rfl⟩)
      have z : w.ad i = p := z
      rw [z] at y; exact y hn
  · obtain ⟨v, h1, h2⟩ := R2.vals i d h
    exact ⟨v, h1, Dp.up up _ h2⟩
  · obtain ⟨xs, h1, h2, h3⟩ := R2.owns i ds h
    by_cases z : w.ad i = p
    · rw [if_pos z] at h2; cases h2
    · rw [if_neg z] at h2
      exact ⟨xs, h1, h2, DpAll.up up _ h3⟩
theorem Rel.nP (R : Rel K w ρ π H σ) {p : Addr} (hn : H p = none) : w.P ≠ some p := fun c => by
  have z := R.pot p c
  rw [hn] at z; cases z
theorem Rel.adopt {p : Addr} {i : Nat} {xs : List V} {ds : List PyData} (R : Rel K (w.hold p) ρ π H σ) (hi : i < ρ.length) (h0 : w.H0 p = none) (hL : ¬ w.L0 p) (hP : w.P ≠ some p) (hp : H p = some (.lst xs)) (ha : DpAll K (mask ((w.hold p).M ρ) H) xs ds) : Rel K (w.at i p) (ρ.set i (.own ds)) π H (σ.set i (some (.ref p))) := by
  have W := R.wipe1 (i := i) (x := some (V.ref p))
  have up : Same (mask ((w.hold p).M (ρ.set i .un)) H) (mask ((w.at i p).M (ρ.set i (.own ds))) H) := fun b o eb => by
    obtain ⟨nb, eb⟩ := mask_some eb
    rw [mask_out (fun m => by
      rcases (M_at (s := .own ds) hi trivial).mp m with y | y
      · exact nb (hold_M.mpr (.inr y))
      · exact nb (hold_M.mpr (.inl y)))]
    exact eb
  have get : ∀ {j : Nat} {t : Sl}, (ρ.set i (.own ds))[j]? = some t → (i = j ∧ t = .own ds) ∨ (i ≠ j ∧ (ρ.set i .un)[j]? = some t) := fun {j t} h => by
    by_cases c : i = j
    · subst c; exact .inl ⟨rfl, get_set_some h⟩
    · rw [List.getElem?_set_ne c] at h
      exact .inr ⟨c, by rw [List.getElem?_set_ne c]; exact h⟩
  have own : ∀ {j : Nat}, i ≠ j → ownAt (ρ.set i (.own ds)) j → ownAt (ρ.set i .un) j := fun c h => (h.of_set_ne c).set_ne c
  have hiσ : i < σ.length := by rw [R.len]; exact hi
  have nad : ∀ {j : Nat}, ownAt (ρ.set i .un) j → w.ad j ≠ p := fun hj e => W.disj _ hj (.inr e)
  refine ⟨W.len.trans (by rw [List.length_set, List.length_set]), fun q eq => (W.potL q eq).elim id fun z => ?_, W.pot, W.ext, fun a h => W.domL a (.inl h), fun j h => ?_, fun j h => ?_, fun j l hj hl e => ?_, fun j d h => ?_, fun j es h => ?_, fun j kvs h => ?_, fun j h => ?_⟩
  · have z : q = p := z
    rw [z] at eq
    exact absurd eq hP
  · by_cases c : i = j
    · subst c; rw [Wd.at_self]; exact hL
    · rw [Wd.at_ne (Ne.symm c)]; exact fun z => W.disj j (own c h) (.inl z)
  · by_cases c : i = j
    · subst c; rw [Wd.at_self]; exact h0
    · rw [Wd.at_ne (Ne.symm c)]; exact W.own0 j (own c h)
  · by_cases c : i = j
    · by_cases c' : i = l
      · exact c.symm.trans c'
      · rw [← c, Wd.at_self, Wd.at_ne (Ne.symm c')] at e
        exact absurd e.symm (nad (own c' hl))
    · by_cases c' : i = l
      · rw [← c', Wd.at_self, Wd.at_ne (Ne.symm c)] at e
        exact absurd e (nad (own c hj))
      · rw [Wd.at_ne (Ne.symm c), Wd.at_ne (Ne.symm c')] at e
        exact W.inj j l (own c hj) (own c' hl) e
  · rcases get h with ⟨c, q⟩ | ⟨c, q⟩
    · cases q
    · obtain ⟨v, h1, h2⟩ := W.vals j d q
      exact ⟨v, h1, Dp.up up _ h2⟩
  · rcases get h with ⟨c, q⟩ | ⟨c, q⟩
    · subst c
      cases q
      refine ⟨xs, by rw [Wd.at_self]; exact List.getElem?_set_self hiσ, by rw [Wd.at_self]; exact hp, DpAll.up (fun b o eb => ?_) _ ha⟩
      obtain ⟨nb, eb⟩ := mask_some eb
      rw [mask_out (fun m => by
        rcases (M_at (s := .own ds) hi trivial).mp m with y | y
        · exact nb (hold_M.mpr (.inr y))
        · exact nb (hold_M.mpr (.inl (M_set_le nU y))))]
      exact eb
    · obtain ⟨ys, h1, h2, h3⟩ := W.owns j es q
      exact ⟨ys, by rw [Wd.at_ne (Ne.symm c)]; exact h1, by rw [Wd.at_ne (Ne.symm c)]; exact h2, DpAll.up up _ h3⟩
  · rcases get h with ⟨c, q⟩ | ⟨c, q⟩
    · cases q
    · obtain ⟨h1, h2⟩ := W.dics j kvs q
      exact ⟨by rw [Wd.at_ne (Ne.symm c)]; exact h1, by rw [Wd.at_ne (Ne.symm c)]; exact h2⟩
  · rcases get h with ⟨c, q⟩ | ⟨c, q⟩
    · cases q
    · exact W.pots j q

/-! ### two, three targets -/
variable {C : Cont} {ta tb tc : TE} {d1 d2 d3 : PyData} {l1 l2 : List PyData}
theorem hold_mask {p : Addr} : Same (mask (fun a => w.M ρ a ∨ a = p) H) (mask ((w.hold p).M ρ) H) := mask_mono fun a o n h => ⟨fun m => n (hold_M.mp m), h⟩
theorem set_up {i : Nat} {d : PyData} : Same (mask (w.M ρ) H) (mask (w.M (ρ.set i (.val d))) H) := mask_mono fun a o n h => ⟨fun m => n (M_set_le nV m), h⟩
theorem at_up {i : Nat} {p : Addr} {ds : List PyData} (hi : i < ρ.length) : Same (mask ((w.hold p).M ρ) H) (mask ((w.at i p).M (ρ.set i (.own ds))) H) := mask_mono fun a o n h => ⟨fun m => by
  rcases (M_at (s := .own ds) hi trivial).mp m with y | y
  · exact n (hold_M.mpr (.inr y))
  · exact n (hold_M.mpr (.inl (M_set_le nU y))), h⟩
theorem es_par_dd {i j : Nat} (h1 : EvD K ta ρ π d1 π1) (h2 : EvD K tb ρ π1 d2 π2) (k : C.nx ((ρ.set i (.val d1)).set j (.val d2)) π2) : EvS K (tPar i j (tCons ta (tCons tb tNil))) ρ π C := fun w H σ D R n r b t =>
  h1 w H σ R _ fun v1 H1 e1 p1 q1 => by
    have R1 := R.step e1 p1
    refine h2 w H1 σ R1 _ fun v2 H2 e2 p2 q2 => ?_
    have R2 := (R1.step e2 p2).set (i := i) (Dp.up (R1.maskUp e2) _ q1)
    exact ⟨v1, v2, rfl, n w.ad _ _ _ _ k (R2.set (i := j) (Dp.up set_up _ q2))⟩
theorem es_par_dl {i j : Nat} (hj : j < ρ.length) (h1 : EvD K ta ρ π d1 π1) (h2 : EvL K tb ρ π1 l2 π2) (k : C.nx ((ρ.set i (.val d1)).set j (.own l2)) π2) : EvS K (tPar i j (tCons ta (tCons tb tNil))) ρ π C := fun w H σ D R n r b t =>
  h1 w H σ R _ fun v1 H1 e1 p1 q1 => by
    have R1 := R.step e1 p1
    refine h2 w H1 σ R1 _ fun p xs H2 e2 p2 hn hp ha => ?_
    have R2 := R1.hold e2 p2 hn (by rw [hp]; exact nofun)
    have q1' : Dp K (mask ((w.hold p).M ρ) H2) v1 d1 := Dp.up (fun b o eb => by
      obtain ⟨nb, eb⟩ := mask_some eb
      rw [mask_out (fun m => (hold_M.mp m).elim nb fun z => by rw [z, hn] at eb; cases eb)]
      exact e2 b o (fun z => nb (R1.potM z)) eb) _ q1
    have R3 := R2.set (i := i) q1'
    refine ⟨v1, _, rfl, n (w.at j p).ad _ _ _ _ k ?_⟩
    exact R3.adopt (by rw [List.length_set]; exact hj) (R1.h0 hn) (fun z => R1.domL _ z hn) (R1.nP hn) hp (DpAll.up (hold_mask.trans (set_up (w := w.hold p))) _ ha)
theorem es_par_ll {i j : Nat} (hi : i < ρ.length) (hj : j < ρ.length) (hij : i ≠ j) (h1 : EvL K ta ρ π l1 π1) (h2 : EvL K tb ρ π1 l2 π2) (k : C.nx ((ρ.set i (.own l1)).set j (.own l2)) π2) : EvS K (tPar i j (tCons ta (tCons tb tNil))) ρ π C := fun w H σ D R n r b t =>
  h1 w H σ R _ fun p xs H1 e1 p1 hn hp ha => by
    have R1 := R.hold e1 p1 hn (by rw [hp]; exact nofun)
    refine h2 _ H1 σ R1 _ fun p2 ys H2 e2 q2 hn2 hp2 hb => ?_
    have R2 := R1.hold e2 q2 hn2 (by rw [hp2]; exact nofun)
    have ne : p2 ≠ p := fun z => by rw [z, hp] at hn2; cases hn2
    have hp' : H2 p = some (.lst xs) := e2 p _ (R.nP hn) hp
    have up : Same (mask ((w.hold p).M ρ) H1) (mask (((w.hold p).hold p2).M ρ) H2) := fun b o eb => by
      obtain ⟨nb, eb⟩ := mask_some eb
      rw [mask_out (fun m => (hold_M.mp m).elim nb fun z => by rw [z, hn2] at eb; cases eb)]
      exact e2 b o (fun z => nb (R1.potM z)) eb
    have R3 : Rel K (((w.hold p2).at i p)) (ρ.set i (.own l1)) π2 H2 (σ.set i (some (.ref p))) := by
      have R2' : Rel K ((w.hold p2).hold p) ρ π2 H2 σ := by
        have e : (w.hold p2).hold p = ⟨w.P, fun a => (w.L0 a ∨ a = p2) ∨ a = p, w.H0, w.ad⟩ := rfl
        have e' : (w.hold p).hold p2 = ⟨w.P, fun a => (w.L0 a ∨ a = p) ∨ a = p2, w.H0, w.ad⟩ := rfl
        have f : (fun a => (w.L0 a ∨ a = p2) ∨ a = p) = (fun a => (w.L0 a ∨ a = p) ∨ a = p2) := funext fun a => propext ⟨fun z => z.elim (fun z => z.elim (fun z => .inl (.inl z)) .inr) (fun z => .inl (.inr z)), fun z => z.elim (fun z => z.elim (fun z => .inl (.inl z)) .inr) (fun z => .inl (.inr z))⟩
        rw [e, f, ← e']; exact R2
      refine R2'.adopt hi (R.h0 hn) (fun z => z.elim (fun z => R.domL _ z hn) fun z => ne z.symm) (R.nP hn) hp' (DpAll.up (fun b o eb => ?_) _ (DpAll.up (hold_mask (w := w)) _ ha))
      have q := up b o eb
      obtain ⟨nb, eb⟩ := mask_some q
      rw [mask_out (fun m => nb (hold_M.mpr ((hold_M.mp m).elim (fun z => (hold_M.mp z).elim (fun z => .inl (hold_M.mpr (.inl z))) .inr) fun z => .inl (hold_M.mpr (.inr z)))))]
      exact eb
    have hn2' : H p2 = none := e1.fresh p1 hn2
    refine ⟨_, _, rfl, n ((w.at i p).at j p2).ad _ _ _ _ k ?_⟩
    have R4 : Rel K ((w.at i p).hold p2) (ρ.set i (.own l1)) π2 H2 (σ.set i (some (.ref p))) := R3
    refine R4.adopt (by rw [List.length_set]; exact hj) (R.h0 hn2') (fun z => R.domL _ z hn2') (R.nP hn2') hp2 (DpAll.up (fun b o eb => ?_) _ hb)
    obtain ⟨nb, eb⟩ := mask_some eb
    rw [mask_out (fun m => (hold_M.mp m).elim (fun z => by
      rcases (M_at (s := .own l1) hi trivial).mp z with y | y
      · exact nb (.inl (hold_M.mpr (.inr y)))
      · exact nb (.inl (hold_M.mpr (.inl (M_set_le nU y))))) fun z => nb (.inr z))]
    exact eb
theorem es_par3_ddd {i j l : Nat} (h1 : EvD K ta ρ π d1 π1) (h2 : EvD K tb ρ π1 d2 π2) (h3 : EvD K tc ρ π2 d3 π3) (k : C.nx (((ρ.set i (.val d1)).set j (.val d2)).set l (.val d3)) π3) : EvS K (tPar3 i j l (tCons ta (tCons tb (tCons tc tNil)))) ρ π C := fun w H σ D R n r b t =>
  h1 w H σ R _ fun v1 H1 e1 p1 q1 => by
    have R1 := R.step e1 p1
    refine h2 w H1 σ R1 _ fun v2 H2 e2 p2 q2 => ?_
    have R2 := R1.step e2 p2
    refine h3 w H2 σ R2 _ fun v3 H3 e3 p3 q3 => ?_
    have R3 := (R2.step e3 p3).set (i := i) (Dp.up (R2.maskUp e3) _ (Dp.up (R1.maskUp e2) _ q1))
    have R4 := R3.set (i := j) (Dp.up set_up _ (Dp.up (R2.maskUp e3) _ q2))
    exact ⟨v1, v2, v3, rfl, n w.ad _ _ _ _ k (R4.set (i := l) (Dp.up set_up _ (Dp.up set_up _ q3)))⟩
theorem es_par3_ddl {i j l : Nat} (hl : l < ρ.length) (h1 : EvD K ta ρ π d1 π1) (h2 : EvD K tb ρ π1 d2 π2) (h3 : EvL K tc ρ π2 l1 π3) (k : C.nx (((ρ.set i (.val d1)).set j (.val d2)).set l (.own l1)) π3) : EvS K (tPar3 i j l (tCons ta (tCons tb (tCons tc tNil)))) ρ π C := fun w H σ D R n r b t =>
  h1 w H σ R _ fun v1 H1 e1 p1 q1 => by
    have R1 := R.step e1 p1
    refine h2 w H1 σ R1 _ fun v2 H2 e2 p2 q2 => ?_
    have R2 := R1.step e2 p2
    refine h3 w H2 σ R2 _ fun p xs H3 e3 p3 hn hp ha => ?_
    have up : Same (mask (w.M ρ) H2) (mask ((w.hold p).M ρ) H3) := fun b o eb => by
      obtain ⟨nb, eb⟩ := mask_some eb
      rw [mask_out (fun m => (hold_M.mp m).elim nb fun z => by rw [z, hn] at eb; cases eb)]
      exact e3 b o (fun z => nb (R2.potM z)) eb
    have R3 := (R2.hold e3 p3 hn (by rw [hp]; exact nofun)).set (i := i) (Dp.up up _ (Dp.up (R1.maskUp e2) _ q1))
    have R4 := R3.set (i := j) (Dp.up set_up _ (Dp.up up _ q2))
    refine ⟨v1, v2, _, rfl, n (w.at l p).ad _ _ _ _ k ?_⟩
    exact R4.adopt (by rw [List.length_set, List.length_set]; exact hl) (R2.h0 hn) (fun z => R2.domL _ z hn) (R2.nP hn) hp (DpAll.up (hold_mask.trans ((set_up (w := w.hold p)).trans (set_up (w := w.hold p)))) _ ha)
end
end JD

/-! ## JDComp -/
set_option Elab.async false
set_option linter.all false
set_option maxRecDepth 100000
set_option maxHeartbeats 2000000
/-! JD: comprehensions -/
namespace JD
open PySem PySem.Spec PyProof.Rows L2

/-- of the turns below n those that f lets, told by v -/
def given (n : Nat) (f : Nat → Bool) (v : Nat → PyData) : List PyData := ((List.range n).filter f).map v
theorem given_zero (f : Nat → Bool) (v : Nat → PyData) : given 0 f v = [] := rfl
theorem given_yes {n : Nat} {f : Nat → Bool} {v : Nat → PyData} (h : f n = true) : given (n + 1) f v = given n f v ++ [v n] := by
  unfold given
  rw [List.range_succ, List.filter_append, List.map_append, List.filter_cons, if_pos h]
  rfl
theorem given_no {n : Nat} {f : Nat → Bool} {v : Nat → PyData} (h : f n = false) : given (n + 1) f v = given n f v := by
  unfold given
  rw [List.range_succ, List.filter_append, List.map_append, List.filter_cons, if_neg (by rw [h]; decide)]
  show _ ++ [] = _
  rw [List.append_nil]
theorem given_len (n : Nat) (f : Nat → Bool) (v : Nat → PyData) : (given n f v).length ≤ n := by
  unfold given
  rw [List.length_map]
  have h := List.length_filter_le f (List.range n)
  rw [List.length_range] at h
  exact h
theorem given_all (n : Nat) (v : Nat → PyData) : given n (fun _ => true) v = (List.range n).map v := by
  unfold given
  rw [List.filter_eq_self.mpr (fun _ _ => rfl)]

section
variable {K : PySem.W.Frag} {w : Wd} {ρ : List Sl} {π π' π1 : Pot} {H H' : Hp} {σ : L2.St}
/-- a held thing that is no pot's is changed -/
theorem Rel.poke {D : Addr} {o : HO} (R : Rel K w ρ π H σ) (hL : w.L0 D) (hP : w.P ≠ some D) (h0 : w.H0 D = none) : Rel K w ρ π (upd H D o) σ := by
  have nad : ∀ i, ownAt ρ i → w.ad i ≠ D := fun i h e => R.disj i h (by rw [e]; exact hL)
  have up : Same (mask (w.M ρ) H) (mask (w.M ρ) (upd H D o)) := mask_mono fun a u n h => ⟨n, by rw [upd_ne (fun z => n (.inl (by rw [z]; exact hL)))]; exact h⟩
  refine ⟨R.len, R.potL, fun p e => ?_, fun b u n e => ?_, fun a h => ?_, R.disj, R.own0, R.inj, fun i d h => ?_, fun i ds h => ?_, fun i kvs h => ?_, R.pots⟩
  · rw [upd_ne (fun z => hP (by rw [e, z]))]; exact R.pot p e
  · rw [upd_ne (fun z => by rw [z, h0] at e; cases e)]; exact R.ext b u n e
  · by_cases c : a = D
    · rw [c, upd_same]; exact nofun
    · rw [upd_ne c]; exact R.domL a h
  · obtain ⟨v, h1, h2⟩ := R.vals i d h
    exact ⟨v, h1, Dp.up up _ h2⟩
  · obtain ⟨xs, h1, h2, h3⟩ := R.owns i ds h
    exact ⟨xs, h1, by rw [upd_ne (nad i ⟨_, h, trivial⟩)]; exact h2, DpAll.up up _ h3⟩
  · obtain ⟨h1, h2⟩ := R.dics i kvs h
    exact ⟨h1, by rw [upd_ne (nad i ⟨_, h, trivial⟩)]; exact h2⟩
/-- the slots of a comprehension's own names, of no value outside, wiped -/
theorem Rel.wipes (R : Rel K w ρ π H σ) {vs : List Nat} (hv : ∀ j ∈ vs, ρ[j]? = some .un ∨ ρ[j]? = none) : Rel K w ρ π H (wipe σ vs) := by
  have get : ∀ {i : Nat} {s : Sl}, ρ[i]? = some s → s ≠ .un → (wipe σ vs)[i]? = σ[i]? := fun {i s} h ne => by
    rw [wipe_get, if_neg (fun z => by
      rcases hv i z.1 with y | y
      · rw [h] at y; exact ne (Option.some.inj y)
      · rw [h] at y; cases y)]
  refine ⟨by rw [wipe_length]; exact R.len, R.potL, R.pot, R.ext, R.domL, R.disj, R.own0, R.inj, fun i d h => ?_, fun i ds h => ?_, fun i kvs h => ?_, fun i h => ?_⟩
  · obtain ⟨v, h1, h2⟩ := R.vals i d h
    exact ⟨v, by rw [get h nofun]; exact h1, h2⟩
  · obtain ⟨xs, h1, h2, h3⟩ := R.owns i ds h
    exact ⟨xs, by rw [get h nofun]; exact h1, h2, h3⟩
  · obtain ⟨h1, h2⟩ := R.dics i kvs h
    exact ⟨by rw [get h nofun]; exact h1, h2⟩
  · obtain ⟨p, h1, h2⟩ := R.pots i h
    exact ⟨p, h1, by rw [get h nofun]; exact h2⟩
theorem el_lc {wi : TI} {g : TG} {tt : TT} {te : TE} {vs : List Nat} {n : Nat} {it : Nat → PyData} {b : Nat → Bool} {out : Nat → PyData} {πs πm : Nat → Pot} {ρi : Nat → List Sl} (hI : EvI K wi ρ π n it π1) (h0 : πs 0 = π1) (hn : n ≤ 16000000)
    (hv : ∀ j ∈ vs, ρ[j]? = some .un ∨ ρ[j]? = none) (hw : WipeG g vs) (hg : ∀ i, i < n → EvG K g ρ (it i) (ρi i)) (hρ : ∀ i, i < n → ∀ j, ownAt ρ j → ownAt (ρi i) j) (ht : ∀ i, i < n → EvT K tt (ρi i) (πs i) (b i) (πm i)) (he : ∀ i, i < n → b i = true → EvD K te (ρi i) (πm i) (out i) (πs (i + 1))) (hf : ∀ i, i < n → b i = false → πs (i + 1) = πm i) :
    EvL K (tLc wi g tt te vs) ρ π (given n b out) (πs n) := fun w H σ R Q q => by
  refine hI w H σ R _ fun J H1 e1 p1 wk D hD => ?_
  have R1 := R.step e1 p1
  have hD0 : H D = none := e1.fresh p1 hD
  have pD : potAt w.P π1 (upd H1 D (.lst [])) := fun p e => by rw [upd_ne (ne_of_none (p1 p e) hD)]; exact p1 p e
  have hPD : (w.hold D).P ≠ some D := R1.nP hD
  have R2 : Rel K (w.hold D) ρ π1 (upd H1 D (.lst [])) (wipe σ vs) := (R1.hold (.new hD) pD hD (by rw [upd_same]; exact nofun)).wipes hv
  -- what is told between the turns
  let Pv : Nat → Hp → Prop := fun i H' => Ext w.P H1 H' ∧ Rel K (w.hold D) ρ (πs i) H' (wipe σ vs) ∧ ∃ acc, H' D = some (.lst acc) ∧ DpAll K (mask ((w.hold D).M ρ) H') acc (given i b out)
  have sameG : ∀ {i H'}, Pv i H' → Same (mask (w.M ρ) H1) H' := fun {i H'} h b o e => h.1 b o (fun z => (mask_some e).1 (R1.potM z)) (mask_some e).2
  have sameM : ∀ {i H'}, Pv i H' → Same (mask (w.M ρ) H1) (mask ((w.hold D).M ρ) H') := fun {i H'} h b o e => by
    obtain ⟨nb, eb⟩ := mask_some e
    rw [mask_out (fun m => (hold_M.mp m).elim nb fun z => by rw [z, hD] at eb; cases eb)]
    exact sameG h b o e
  refine lc_it wk Pv ⟨.new hD, by rw [h0]; exact R2, [], upd_same, .nil⟩ (fun i H' _ h => sameG h) (fun i x H' H'' hi hPv ⟨s1, s2⟩ => ?_) (fun H' ⟨e2, R3, acc, ha, hacc⟩ => ?_)
  · obtain ⟨e2, R3, acc, ha, hacc⟩ := hPv
    have R4 := R3.step (.of s1) (R3.pot.same s1)
    have hx := s2 _ (fun a m => R3.domH m) (sameM ⟨e2, R3, acc, ha, hacc⟩)
    have go : g x (wipe σ vs) H'' fun σ2 H2 => tt σ2 H2 fun b' H3 => if b' = true then te σ2 H3 fun y H4 => ∃ acc, H4 D = some (.lst acc) ∧ acc.length < sizeLine ∧ Pv (i + 1) (upd H4 D (.lst (acc ++ [y]))) else Pv (i + 1) H3 := by
      refine hg i hi (w.hold D) (πs i) H'' (wipe σ vs) x R4 hx _ fun σ' R5 => ?_
      refine ht i hi _ H'' σ' R5 _ fun H5 e5 p5 => ?_
      have aD : H5 D = some (.lst acc) := e5 D _ hPD (s1 D _ ha)
      have aX : Ext w.P H1 H5 := (e2.trans (.of s1)).trans e5
      have aA : DpAll K (mask ((w.hold D).M ρ) H5) acc (given i b out) := DpAll.up ((R3.maskUp (.of s1)).trans (R4.maskUp e5)) _ hacc
      have R6 : Rel K (w.hold D) ρ (πm i) H5 (wipe σ vs) := R4.step e5 p5
      cases hb : b i with
      | true =>
        rw [if_pos rfl]
        refine he i hi hb _ H5 σ' (R5.step e5 p5) _ fun y H6 e6 p6 q6 => ?_
        have bD : H6 D = some (.lst acc) := e6 D _ hPD aD
        have R7 : Rel K (w.hold D) ρ (πs (i + 1)) H6 (wipe σ vs) := R6.step e6 p6
        have q6' : Dp K (mask ((w.hold D).M ρ) H6) y (out i) := Dp.up (mask_mono fun a o n h => ⟨fun m => n (by
          rcases m with m | ⟨j, hj, e⟩
          · exact .inl m
          · exact .inr ⟨j, hρ i hi j hj, e⟩), h⟩) _ q6
        refine ⟨acc, bD, by rw [hacc.len, sizeLine_eq]; have := given_len i b out; omega, fun c u n z => ?_, R7.poke (.inr rfl) hPD (R1.h0 hD), acc ++ [y], upd_same, ?_⟩
        · rw [upd_ne (fun e => by rw [e, hD] at z; cases z)]
          exact (aX.trans e6) c u n z
        · rw [given_yes hb]
          refine DpAll.app (DpAll.up ?_ _ (DpAll.up (R6.maskUp e6) _ aA)) (.one (Dp.up ?_ _ q6'))
          all_goals exact mask_mono fun a o n h => ⟨n, by rw [upd_ne (fun e => n (by rw [e]; exact .inl (.inr rfl)))]; exact h⟩
      | false =>
        rw [if_neg Bool.false_ne_true]
        refine ⟨aX, ?_, acc, aD, ?_⟩
        · rw [hf i hi hb]; exact R6
        · rw [given_no hb]; exact aA
    have q0 := hw x (wipe σ vs) H'' _ go
    rw [show wipe (wipe σ vs) vs = wipe σ vs from wipe_wipe] at q0
    exact q0
  · refine q D acc H' (e1.trans e2) (R3.pot) hD0 ha (DpAll.up (mask_mono fun a o n h => ⟨fun m => n (hold_M.mpr m), h⟩) _ hacc)
end

/-! ### the rules -/
theorem Cz.blk {G : Glb} {k : Nat} {N : List Str} {sc : Scope} {B : Bool} {X : Cx} (c : Cz G k N sc B X) (s : Shared) (H : Hp) (scope : Scope) (C : Addr) (cl : List (Str × Addr)) (fp : List Addr) : Cz G k N (relS scope sc) false (X.blk s H scope (compEnvC scope cl C X.env) fp) :=
  ⟨c.prog, c.w, c.K, c.mg, c.base, c.calm, c.gd, c.room, c.N, c.nd, by
    show relS scope X.env.scope = _
    rw [c.sc], rfl, fun z => nomatch z⟩
/-- the tests of a comprehension -/
structure JTs (K : PySem.W.Frag) (g : Prop) (X : Cx) (ifs : List Expr) (tt : TT) (ρ : List Sl) (π : Pot) (b : Bool) (π' : Pot) : Prop where
  pts : PTs X ifs tt
  ev : g → EvT K tt ρ π b π'
section
variable {G : Glb} {k : Nat} {N : List Str} {sc : Scope} {B : Bool} {X : Cx} {g : Prop} {ρ : List Sl} {π π1 π2 : Pot}
theorem jts_nil : JTs G.K g X [] tYes ρ π true π := ⟨pts_nil, fun _ w H σ R Q q => q H (Ext.refl H) R.pot⟩
theorem jts_one {e : Expr} {tt : TT} {b : Bool} (h : JT G.K g X e tt ρ π b π1) : JTs G.K g X [e] tt ρ π b π1 := ⟨pts_one h.pt, h.ev⟩
/-- a comprehension of one clause -/
structure LcP (X : Cx) (elt tg iter : Expr) (ifs : List Expr) (scope : Scope) (own : List (Str × Nat)) (wi : TI) (gT : TG) (tt : TT) (te : TE) : Prop where
  pi : PI X tg iter wi
  ok : BlkOk X.N X.env.scope scope own
  pg : ∀ (s : Shared) (H : Hp) (C : Addr) (cl : List (Str × Addr)) (fp : List Addr), PG (X.blk s H scope (compEnvC scope cl C X.env) fp) tg gT
  pt : ∀ (s : Shared) (H : Hp) (C : Addr) (cl : List (Str × Addr)) (fp : List Addr), PTs (X.blk s H scope (compEnvC scope cl C X.env) fp) ifs tt
  pe : ∀ (s : Shared) (H : Hp) (C : Addr) (cl : List (Str × Addr)) (fp : List Addr), PE (X.blk s H scope (compEnvC scope cl C X.env) fp) elt te
structure JLc (K : PySem.W.Frag) (g : Prop) (X : Cx) (elt tg iter : Expr) (ifs : List Expr) (scope : Scope) (own : List (Str × Nat)) (wi : TI) (gT : TG) (tt : TT) (te : TE) (ρ : List Sl) (π : Pot) (ds : List PyData) (π' : Pot) : Prop where
  p : LcP X elt tg iter ifs scope own wi gT tt te
  ev : g → EvL K (tLc wi gT tt te (own.map (·.2))) ρ π ds π'
variable {elt tg iter : Expr} {ifs : List Expr} {scope : Scope} {own : List (Str × Nat)} {wi : TI} {gT : TG} {tt : TT} {te : TE} {ds es : List PyData} {pos : Pos}
theorem JLc.is (h : JLc G.K g X elt tg iter ifs scope own wi gT tt te ρ π ds π1) (e : g → ds = es) : JLc G.K g X elt tg iter ifs scope own wi gT tt te ρ π es π1 := ⟨h.p, fun q => by rw [← e q]; exact h.ev q⟩
theorem jlc (c : Cz G k N sc B X) {n : Nat} {it : Nat → PyData} {b : Nat → Bool} {out : Nat → PyData} {πs πm : Nat → Pot} {ρi : Nat → List Sl} (hi : JI G.K g X tg iter wi ρ π n it π1) (h0 : πs 0 = π1) (hn : g → n ≤ 16000000) (hgt : ∀ Y, Cz G k N (relS scope sc) false Y → PG Y tg gT) (hw : WipeG gT (own.map (·.2)))
    (hv : ∀ j ∈ own.map (·.2), ρ[j]? = some .un ∨ ρ[j]? = none) (hρ : ∀ i j, ownAt ρ j → ownAt (ρi i) j) (hg : ∀ i, g → i < n → EvG G.K gT ρ (it i) (ρi i))
    (ht : ∀ Y, Cz G k N (relS scope sc) false Y → ∀ i, JTs G.K (g ∧ i < n) Y ifs tt (ρi i) (πs i) (b i) (πm i)) (he : ∀ Y, Cz G k N (relS scope sc) false Y → ∀ i, JE G.K ((g ∧ i < n) ∧ b i = true) Y elt te (ρi i) (πm i) (out i) (πs (i + 1)))
    (hf : ∀ i, g → i < n → b i = false → πs (i + 1) = πm i) (ok : blkC N sc scope own = true) : JLc G.K g X elt tg iter ifs scope own wi gT tt te ρ π (given n b out) (πs n) :=
  ⟨⟨hi.pi, by rw [c.N, c.sc]; exact blkOk_by ok, fun s H C cl fp => hgt _ (c.blk s H scope C cl fp), fun s H C cl fp => (ht _ (c.blk s H scope C cl fp) 0).pts, fun s H C cl fp => (he _ (c.blk s H scope C cl fp) 0).pe⟩, fun q => by
    -- the readings' words need some context: that of the def
    exact el_lc (hi.ev q) h0 (hn q) hv hw (fun i h => hg i q h) (fun i _ => hρ i) (fun i h => (ht _ (c.blk X.s_0 X.H_0 scope 0 [] []) i).ev ⟨q, h⟩) (fun i h hb => (he _ (c.blk X.s_0 X.H_0 scope 0 [] []) i).ev ⟨⟨q, h⟩, hb⟩) fun i h => hf i q h⟩
/-- by a name, no test, no pot: the list of what each item comes to -/
theorem jlc_map (c : Cz G k N sc B X) {n : Nat} {it : Nat → PyData} {out : Nat → PyData} {x : Str} {xp : Pos} {j : Nat} (hi : JI G.K g X (.Name x xp) iter wi ρ π n it π1) (hn : g → n ≤ 16000000)
    (he : ∀ Y, Cz G k N (relS scope sc) false Y → ∀ i, JE G.K (g ∧ i < n) Y elt te (ρ.set j (.val (it i))) π1 (out i) π1) (hv : ρ[j]? = some .un := by rfl) (hx : N[j]? = some x := by rfl) (hl : (relS scope sc).names.lookup x = some .local := by rfl) (ok : blkC N sc scope [(x, j)] = true := by decide +kernel) :
    JLc G.K g X elt (.Name x xp) iter [] scope [(x, j)] wi (gName j) tYes te ρ π ((List.range n).map out) π1 := by
  have q := jlc (ifs := []) (gT := gName j) (tt := tYes) (own := [(x, j)]) (b := fun _ => true) (πs := fun _ => π1) (πm := fun _ => π1) (ρi := fun i => ρ.set j (.val (it i))) (out := out) (te := te) (elt := elt) (scope := scope) c hi rfl hn (fun Y cY => pg_nameG cY j hx (.inl hl)) (wg_name (by simp)) (fun j' h' => by
      have e : j' = j := by simpa using h'
      subst e; exact .inl hv) (fun i j' h' => by
      by_cases e : j = j'
      · subst e
        obtain ⟨s, h1, h2⟩ := h'
        rw [hv] at h1; cases h1; exact h2.elim
      · exact h'.set_ne e) (fun i _ _ => eg_name) (fun Y cY i => jts_nil) (fun Y cY i => ⟨(he Y cY i).pe, fun q => (he Y cY i).ev q.1⟩) (fun i _ _ z => nomatch z) ok
  exact q.is fun _ => given_all n out
/-- by a name, one test, no pot -/
theorem jlc_filter (c : Cz G k N sc B X) {n : Nat} {it : Nat → PyData} {b : Nat → Bool} {out : Nat → PyData} {x : Str} {xp : Pos} {j : Nat} {cnd : Expr} (hi : JI G.K g X (.Name x xp) iter wi ρ π n it π1) (hn : g → n ≤ 16000000)
    (ht : ∀ Y, Cz G k N (relS scope sc) false Y → ∀ i, JT G.K (g ∧ i < n) Y cnd tt (ρ.set j (.val (it i))) π1 (b i) π1)
    (he : ∀ Y, Cz G k N (relS scope sc) false Y → ∀ i, JE G.K ((g ∧ i < n) ∧ b i = true) Y elt te (ρ.set j (.val (it i))) π1 (out i) π1) (hv : ρ[j]? = some .un := by rfl) (hx : N[j]? = some x := by rfl) (hl : (relS scope sc).names.lookup x = some .local := by rfl) (ok : blkC N sc scope [(x, j)] = true := by decide +kernel) :
    JLc G.K g X elt (.Name x xp) iter [cnd] scope [(x, j)] wi (gName j) tt te ρ π (given n b out) π1 :=
  jlc (ifs := [cnd]) (gT := gName j) (tt := tt) (own := [(x, j)]) (b := b) (πs := fun _ => π1) (πm := fun _ => π1) (ρi := fun i => ρ.set j (.val (it i))) (out := out) (te := te) (elt := elt) (scope := scope) c hi rfl hn (fun Y cY => pg_nameG cY j hx (.inl hl)) (wg_name (by simp)) (fun j' h' => by
      have e : j' = j := by simpa using h'
      subst e; exact .inl hv) (fun i j' h' => by
      by_cases e : j = j'
      · subst e
        obtain ⟨s, h1, h2⟩ := h'
        rw [hv] at h1; cases h1; exact h2.elim
      · exact h'.set_ne e) (fun i _ _ => eg_name) (fun Y cY i => jts_one (ht Y cY i)) he (fun i _ _ _ => rfl) ok
theorem JLc.jl (c : Cz G k N sc B X) (h : JLc G.K g X elt tg iter ifs scope own wi gT tt te ρ π ds π1) (hs : ∀ x, foldedSetIterable iter X.env x = pure x := by intro _; rfl) : JL G.K g X (.ListComp elt [⟨tg, iter, ifs, 0⟩] scope pos) (tLc wi gT tt te (own.map (·.2))) ρ π ds π1 :=
  ⟨pe_lc c.calm (by rw [c.N]; exact c.nd) h.p.pi h.p.ok h.p.pg h.p.pt h.p.pe hs, h.ev⟩
theorem JLc.je (c : Cz G k N sc B X) (h : JLc G.K g X elt tg iter ifs scope own wi gT tt te ρ π ds π1) (hs : ∀ x, foldedSetIterable iter X.env x = pure x := by intro _; rfl) : JE G.K g X (.ListComp elt [⟨tg, iter, ifs, 0⟩] scope pos) (tLc wi gT tt te (own.map (·.2))) ρ π (.list ds) π1 := (h.jl c hs).je
/-- name = [..] on one line -/
theorem ps_setLcG (c : Cz G k N sc B X) (i : Nat) {y : Str} {py spos : Pos} (h : LcP X elt tg iter ifs scope own wi gT tt te) (hk : sc.kind = .function) (hN : N[i]? = some y := by rfl) (hy : sc.names.lookup y = some .local := by rfl) (hl : (py.line == pos.line) = true := by rfl)
    (ha : (scope.names.any fun (n, k) => n == y && (k == .local || k == .cell)) = false := by decide +kernel) (hs : ∀ x, foldedSetIterable iter X.env x = pure x := by intro _; rfl) : PS X (.Assign [.Name y py] (.ListComp elt [⟨tg, iter, ifs, 0⟩] scope pos) spos) (tAsg (tLc wi gT tt te (own.map (·.2))) (gName i)) :=
  ps_setLc c.calm (by rw [c.N]; exact c.nd) (by rw [c.N]; exact hN) (c.loc hy) (sw_true (by rw [c.sc]; exact hk) (c.loc hy) hl ha) h.pi h.ok h.pg h.pt h.pe hs
variable {C : Cont}
theorem js_asgLc (c : Cz G k N sc B X) (i : Nat) {y : Str} {py spos : Pos} (h : JLc G.K g X elt tg iter ifs scope own wi gT tt te ρ π ds π1) (kk : g → C.nx (ρ.set i (.val (.list ds))) π1 := by exact fun _ => ⟨rfl, rfl⟩) (hk : sc.kind = .function := by rfl) (hN : N[i]? = some y := by rfl) (hy : sc.names.lookup y = some .local := by rfl) (hl : (py.line == pos.line) = true := by rfl)
    (ha : (scope.names.any fun (n, k) => n == y && (k == .local || k == .cell)) = false := by decide +kernel) (hs : ∀ x, foldedSetIterable iter X.env x = pure x := by intro _; rfl) : JS G.K g X (.Assign [.Name y py] (.ListComp elt [⟨tg, iter, ifs, 0⟩] scope pos) spos) (tAsg (tLc wi gT tt te (own.map (·.2))) (gName i)) ρ π C :=
  ⟨ps_setLcG c i h.p hk hN hy hl ha hs, fun q => es_asg (ev_ofL (h.ev q)) (kk q)⟩
theorem js_asgLcL (c : Cz G k N sc B X) (i : Nat) {y : Str} {py spos : Pos} (h : JLc G.K g X elt tg iter ifs scope own wi gT tt te ρ π ds π1) (hi : i < ρ.length := by exact Nat.le_of_ble_eq_true rfl) (kk : g → C.nx (ρ.set i (.own ds)) π1 := by exact fun _ => ⟨rfl, rfl⟩) (hk : sc.kind = .function := by rfl) (hN : N[i]? = some y := by rfl) (hy : sc.names.lookup y = some .local := by rfl) (hl : (py.line == pos.line) = true := by rfl)
    (ha : (scope.names.any fun (n, k) => n == y && (k == .local || k == .cell)) = false := by decide +kernel) (hs : ∀ x, foldedSetIterable iter X.env x = pure x := by intro _; rfl) : JS G.K g X (.Assign [.Name y py] (.ListComp elt [⟨tg, iter, ifs, 0⟩] scope pos) spos) (tAsg (tLc wi gT tt te (own.map (·.2))) (gName i)) ρ π C :=
  ⟨ps_setLcG c i h.p hk hN hy hl ha hs, fun q => es_asgL hi (h.ev q) (kk q)⟩
end
end JD

/-! ## JDFor -/
set_option Elab.async false
set_option linter.all false
set_option maxRecDepth 100000
set_option maxHeartbeats 2000000
/-! JD: loops, targets, changes, a def's body, as rules -/
namespace JD
open PySem PySem.Spec PyProof.Rows L2

section
variable {G : Glb} {k : Nat} {N : List Str} {sc : Scope} {B : Bool} {X : Cx} {g : Prop} {ρ ρ1 : List Sl} {π π1 π2 π3 : Pot} {C : Cont} {tg iter e e1 e2 e3 : Expr} {te ta tb tc : TE} {d d1 d2 d3 : PyData} {pos : Pos}
/-! ### what is walked -/
theorem ji_list {ds : List PyData} (h : JE G.K g X e te ρ π (.list ds) π1) (c : Cz G k N sc B X) : JI G.K g X tg e (iList G.K te) ρ π ds.length (fun i => ds.getD i .none) π1 :=
  ⟨by have q := pi_list (X := X) (tg := tg) h.pe; rw [c.K] at q; exact q, fun q => ei_list (h.ev q)⟩
theorem ji_tup {ds : List PyData} (h : JE G.K g X e te ρ π (.tuple ds) π1) (c : Cz G k N sc B X) : JI G.K g X tg e (iTup G.K te) ρ π ds.length (fun i => ds.getD i .none) π1 :=
  ⟨by have q := pi_tup (X := X) (tg := tg) h.pe; rw [c.K] at q; exact q, fun q => ei_tup (h.ev q)⟩
theorem EvI.is {K : PySem.W.Frag} {wi : TI} {n m : Nat} {it it' : Nat → PyData} (h : EvI K wi ρ π n it π1) (hn : n = m) (hi : ∀ i, i < n → it i = it' i) : EvI K wi ρ π m it' π1 := fun w H σ R Q q =>
  h w H σ R Q fun J H1 e1 p1 wk => by
    subst hn
    refine q J H1 e1 p1 (wk.mono (fun H h => h) fun i H x H' hi' _ y => ?_)
    refine ⟨y.1, fun M dm s => ?_⟩
    show Dp K _ x (it' i)
    rw [← hi i hi']
    exact y.2 M dm s
theorem JI.is {wi : TI} {n m : Nat} {it it' : Nat → PyData} (h : JI G.K g X tg e wi ρ π n it π1) (hn : g → n = m) (hi : g → ∀ i, i < n → it i = it' i) : JI G.K g X tg e wi ρ π m it' π1 := ⟨h.pi, fun q => (h.ev q).is (hn q) (hi q)⟩
theorem ji_listF {α : Type} {f : α → PyData} {xs : List α} (x0 : α) (h : JE G.K g X e te ρ π (.list (xs.map f)) π1) (c : Cz G k N sc B X) : JI G.K g X tg e (iList G.K te) ρ π xs.length (fun i => f (xs.getD i x0)) π1 :=
  (ji_list h c).is (fun _ => List.length_map ..) fun _ i hi => by
    rw [List.length_map] at hi
    rw [List.getD_eq_getElem?_getD, List.getD_eq_getElem?_getD, List.getElem?_map, List.getElem?_eq_getElem hi]; rfl
theorem ji_tupF {α : Type} {f : α → PyData} {xs : List α} (x0 : α) (h : JE G.K g X e te ρ π (.tuple (xs.map f)) π1) (c : Cz G k N sc B X) : JI G.K g X tg e (iTup G.K te) ρ π xs.length (fun i => f (xs.getD i x0)) π1 :=
  (ji_tup h c).is (fun _ => List.length_map ..) fun _ i hi => by
    rw [List.length_map] at hi
    rw [List.getD_eq_getElem?_getD, List.getD_eq_getElem?_getD, List.getElem?_map, List.getElem?_eq_getElem hi]; rfl
theorem ji_str {x : Str} (h : JE G.K g X e te ρ π (.str x) π1) : JI G.K g X tg e (iStr te) ρ π x.cps.size (fun i => .str ⟨#[x.cps.getD i 0]⟩) π1 := ⟨pi_str h.pe, fun q => ei_str (h.ev q)⟩
theorem ji_rng1 (c : Cz G k N sc B X) {p : Pos} {j : Int} (h : JE G.K g X e te ρ π (.int j) π1) (hj : g → -(2 ^ 62) ≤ j ∧ j < 2 ^ 62) (hm : G.mg "range" = none) (hg : sc.names.lookup ("range" : Str) = some .globalImplicit := by rfl) (hs : starEach [e] X.env = [(false, eval e X.env)] := by rfl) :
    JI G.K g X tg (.Call (.Name "range" p) [e] [] pos) (iRng1 (tCons te tNil)) ρ π j.toNat (fun i => .int (i : Int)) π1 := ⟨pi_range1 (c.gl hg) (c.nn hm) (pa_cons h.pe pa_nil (by rw [hs]; rfl)) hs, fun q => ei_rng1 (ea_cons (h.ev q) ea_nil) (hj q)⟩
theorem ji_rng2 (c : Cz G k N sc B X) {p : Pos} {lo j : Int} (h1 : JE G.K g X e1 ta ρ π (.int lo) π1) (h2 : JE G.K g X e2 tb ρ π1 (.int j) π2) (hj : g → -(2 ^ 62) ≤ lo ∧ lo < 2 ^ 62 ∧ -(2 ^ 62) ≤ j ∧ j < 2 ^ 62) (hm : G.mg "range" = none) (hg : sc.names.lookup ("range" : Str) = some .globalImplicit := by rfl)
    (hs : starEach [e1, e2] X.env = [(false, eval e1 X.env), (false, eval e2 X.env)] := by rfl) (hs2 : starEach [e2] X.env = [(false, eval e2 X.env)] := by rfl) :
    JI G.K g X tg (.Call (.Name "range" p) [e1, e2] [] pos) (iRng2 (tCons ta (tCons tb tNil))) ρ π (j - lo).toNat (fun i => .int (lo + (i : Int))) π2 := ⟨pi_range2 (c.gl hg) (c.nn hm) (pa_cons h1.pe (pa_cons h2.pe pa_nil (by rw [hs2]; rfl)) (by rw [hs, hs2])) hs hs2, fun q => ei_rng2 (ea_cons (h1.ev q) (ea_cons (h2.ev q) ea_nil)) (hj q)⟩
theorem ji_rngD (c : Cz G k N sc B X) {p : Pos} {lo j : Int} (h1 : JE G.K g X e1 ta ρ π (.int lo) π1) (h2 : JE G.K g X e2 tb ρ π1 (.int j) π2) (h3 : JE G.K g X e3 tc ρ π2 (.int (-1)) π2) (hj : g → -(2 ^ 62) ≤ lo ∧ lo < 2 ^ 62 ∧ -(2 ^ 62) ≤ j ∧ j < 2 ^ 62) (hm : G.mg "range" = none) (hg : sc.names.lookup ("range" : Str) = some .globalImplicit := by rfl)
    (hs : starEach [e1, e2, e3] X.env = (false, eval e1 X.env) :: starEach [e2, e3] X.env := by rfl) (hs2 : starEach [e2, e3] X.env = (false, eval e2 X.env) :: starEach [e3] X.env := by rfl) (hs3 : starEach [e3] X.env = (false, eval e3 X.env) :: starEach [] X.env := by rfl) (hpl : (backTo pos (starEach [e2, e3] X.env)).any (·.1) = false := by rfl) :
    JI G.K g X tg (.Call (.Name "range" p) [e1, e2, e3] [] pos) (iRng3 (tCons ta (tCons tb (tCons tc tNil)))) ρ π (lo - j).toNat (fun i => .int (lo - (i : Int))) π2 := ⟨pi_range3 (c.gl hg) (c.nn hm) (pa_cons h1.pe (pa_cons h2.pe (pa_cons h3.pe pa_nil hs3) hs2) hs) hs hpl, fun q => ei_rngD (ea_cons (h1.ev q) (ea_cons (h2.ev q) (ea_cons (h3.ev q) ea_nil))) (hj q)⟩
/-! ### for, while -/
/-- the slots of js forgotten -/
def forget (js : List Nat) (ρ : List Sl) : List Sl := js.foldl (fun r j => r.set j .un) ρ
theorem set_self {σ : L2.St} {i : Nat} : σ.set i (σ[i]?.getD Option.none) = σ := by
  refine List.ext_getElem? fun j => ?_
  by_cases c : i = j
  · subst c
    by_cases hi : i < σ.length
    · rw [List.getElem?_set_self hi, List.getElem?_eq_getElem hi]; rfl
    · rw [List.getElem?_eq_none (by rw [List.length_set]; omega), List.getElem?_eq_none (by omega)]
  · rw [List.getElem?_set_ne c]
theorem Rel.forget {K : PySem.W.Frag} {w : Wd} {π : Pot} {H : Hp} {σ : L2.St} : ∀ (js : List Nat) {ρ : List Sl}, Rel K w ρ π H σ → Rel K w (forget js ρ) π H σ
  | [], _, R => R
  | j :: js, ρ, R => by
    have R' := R.wipe1 (i := j) (x := σ[j]?.getD Option.none)
    rw [set_self] at R'
    exact Rel.forget js R'
theorem forget_M {w : Wd} {a : Addr} : ∀ (js : List Nat) {ρ : List Sl}, w.M (forget js ρ) a → w.M ρ a
  | [], _, m => m
  | j :: js, ρ, m => M_set_le nU (forget_M js (ρ := ρ.set j .un) m)
/-- for, the states between the turns told one by one; js: the slots that a turn leaves without meaning -/
theorem js_for (c : Cz G k N sc B X) {body : List Stmt} {wi : TI} {gT : TG} {tb : TS} {n : Nat} {it : Nat → PyData} (js : List Nat) (Ri Rb : Nat → List Sl) (Pi : Nat → Pot) (Gi : Nat → Prop) (hi : JI G.K g X tg iter wi ρ π n it π1) (hgt : PG X tg gT) (h0 : g → ρ = Ri 0 ∧ π1 = Pi 0 ∧ Gi 0)
    (hg : ∀ i, EvG G.K gT (Ri i) (it i) (Rb i)) (hb : ∀ i, JSs G.K (g ∧ i < n ∧ Gi i) X body tb (Rb i) (Pi i) { nx := fun ρ' π' => forget js ρ' = Ri (i + 1) ∧ π' = Pi (i + 1) ∧ Gi (i + 1), ct := fun ρ' π' => forget js ρ' = Ri (i + 1) ∧ π' = Pi (i + 1) ∧ Gi (i + 1), bk := C.nx, rt := C.rt, rx := C.rx })
    (hd : g → Gi n → C.nx (Ri n) (Pi n)) (hs : ∀ x, foldedSetIterable iter X.env x = pure x := by intro _; rfl) : JS G.K g X (.For tg iter body [] pos) (tFor wi gT tb) ρ π C :=
  ⟨ps_for (by rw [c.xe]; exact PassesOwn.never) c.calm hi.pi hgt (hb 0).pss hs, fun q w H σ D R n' r b t => by
    obtain ⟨e1, e2, e3⟩ := h0 q
    have main : EvS G.K (tFor wi gT tb) ρ π { C with nx := fun ρ' π' => ∃ js', C.nx (forget js' ρ') π' } := by
      refine es_for (fun i ρ' π' => (∃ js', forget js' ρ' = Ri i) ∧ π' = Pi i ∧ Gi i) (hi.ev q) ⟨⟨[], e1⟩, e2, e3⟩ (fun i ρ' π' hlt ⟨⟨js', h1⟩, h2, h3⟩ => ?_) (fun ρ' π' ⟨⟨js', h1⟩, h2, h3⟩ => ⟨js', by rw [h1, h2]; exact hd q h3⟩)
      refine ⟨Rb i, fun w π H σ v R h Q k => ?_, fun w H σ D R n r b t => ?_⟩
      · have R' := R.forget js'
        have up : Same (mask (w.M ρ') H) (mask (w.M (forget js' ρ')) H) := by
          exact mask_mono fun a o nn h => ⟨fun m => nn (forget_M js' m), h⟩
        rw [h1] at R' up
        exact hg i w π H σ v R' (Dp.up up _ h) Q k
      · subst h2
        exact (hb i).ev ⟨q, hlt, h3⟩ w H σ D R (fun ad ρ2 π2 H2 σ2 ⟨z1, z2, z3⟩ R2 => n ad ρ2 π2 H2 σ2 ⟨⟨js, z1⟩, z2, z3⟩ R2) r (fun ad ρ2 π2 H2 σ2 z R2 => b ad ρ2 π2 H2 σ2 ⟨[], z⟩ R2) (fun ad ρ2 π2 H2 σ2 ⟨z1, z2, z3⟩ R2 => t ad ρ2 π2 H2 σ2 ⟨⟨js, z1⟩, z2, z3⟩ R2)
    exact main w H σ D R (fun ad ρ2 π2 H2 σ2 ⟨js', z⟩ R2 => n' ad _ π2 H2 σ2 z (R2.forget js')) r b t⟩
theorem js_while (c : Cz G k N sc B X) {ι : Type} {cond : Expr} {body : List Stmt} {tt : TT} {tb : TS} (s0 : ι) (js : List Nat) (Rm : ι → List Sl) (Gm : ι → Prop) (μ : ι → Nat) (b : ι → Bool) (h0 : g → ρ = Rm s0 ∧ Gm s0)
    (ht : ∀ s, JT G.K (g ∧ Gm s) X cond tt (Rm s) π (b s) π) (hb : ∀ s, JSs G.K ((g ∧ Gm s) ∧ b s = true) X body tb (Rm s) π { nx := fun ρ' π' => π' = π ∧ ∃ s', forget js ρ' = Rm s' ∧ Gm s' ∧ μ s' < μ s, ct := fun ρ' π' => π' = π ∧ ∃ s', forget js ρ' = Rm s' ∧ Gm s' ∧ μ s' < μ s, bk := C.nx, rt := C.rt, rx := C.rx })
    (hd : ∀ s, g → Gm s → b s = false → C.nx (Rm s) π) : JS G.K g X (.While cond body [] pos) (tWhile tt tb) ρ π C :=
  ⟨ps_while (by rw [c.xe]; exact PassesOwn.never) (ht s0).pt (hb s0).pss, fun q w H σ D R n' r bb t => by
    obtain ⟨e1, e2⟩ := h0 q
    subst e1
    -- the states with what a turn has left in the slots without meaning
    refine ⟨fun m σ' H' => ∃ ad s, m = μ s ∧ Gm s ∧ Rel G.K { w with ad := ad } (Rm s) π H' σ', ⟨μ s0, w.ad, s0, rfl, e2, R⟩, fun m σ' H' ⟨ad, s, em, hv, R'⟩ => ?_⟩
    subst em
    refine (ht s).ev ⟨q, hv⟩ _ H' σ' R' _ fun H1 e1 p1 => ?_
    have R1 := R'.step e1 p1
    cases hx : b s with
    | true =>
      rw [if_pos rfl]
      refine ⟨fun σ3 H3 => ∃ ad3 s', Gm s' ∧ μ s' < μ s ∧ Rel G.K { w with ad := ad3 } (Rm s') π H3 σ3, fun σ3 H3 ⟨ad3, s', g', m', R3⟩ => ⟨μ s', m', ad3, s', rfl, g', R3⟩, ?_⟩
      exact (hb s).ev ⟨⟨q, hv⟩, hx⟩ _ H1 σ' _ R1 (fun ad3 ρ3 π3 H3 σ3 ⟨ep, s', z, g', m'⟩ R3 => ⟨ad3, s', g', m', by subst ep; rw [← z]; exact R3.forget js⟩) r (n'.at ad) (fun ad3 ρ3 π3 H3 σ3 ⟨ep, s', z, g', m'⟩ R3 => ⟨ad3, s', g', m', by subst ep; rw [← z]; exact R3.forget js⟩)
    | false =>
      rw [if_neg Bool.false_ne_true]
      exact n' ad _ π H1 σ' (hd s q hv hx) R1⟩
/-! ### several targets -/
theorem js_par_dd (c : Cz G k N sc B X) (i j : Nat) {x y : Str} {px py pt : Pos} {kt k2 pt2} (h1 : JE G.K g X e1 ta ρ π d1 π1) (h2 : JE G.K g X e2 tb ρ π1 d2 π2) (hw : ∀ env : Env, env.scope = sc → swappedStores [.Tuple [.Name x px, .Name y py] kt pt] (.Tuple [e1, e2] k2 pt2) env = pure (some [x, y])) (kk : g → C.nx ((ρ.set i (.val d1)).set j (.val d2)) π2 := by exact fun _ => ⟨rfl, rfl⟩) (hij : i ≠ j := by decide)
    (hi : N[i]? = some x := by rfl) (hj : N[j]? = some y := by rfl) (hx : sc.names.lookup x = some .local := by rfl) (hy : sc.names.lookup y = some .local := by rfl) (h1s : starEach (e1 :: [e2]) X.env = (false, eval e1 X.env) :: starEach [e2] X.env := by rfl) (h2s : starEach (e2 :: []) X.env = (false, eval e2 X.env) :: starEach [] X.env := by rfl)
    (hs : swapsWithSole [.Tuple [.Name x px, .Name y py] kt pt] (.Tuple [e1, e2] k2 pt2) pos.line X.env = pure false := by rfl) : JS G.K g X (.Assign [.Tuple [.Name x px, .Name y py] kt pt] (.Tuple [e1, e2] k2 pt2) pos) (tPar i j (tCons ta (tCons tb tNil))) ρ π C :=
  ⟨ps_par c.calm (by rw [c.N]; exact c.nd) (by rw [c.N]; exact hi) (by rw [c.N]; exact hj) hij (c.loc hx) (c.loc hy) (pa_cons h1.pe (pa_cons h2.pe pa_nil h2s) h1s) (hw _ c.sc) hs, fun q => es_par_dd (h1.ev q) (h2.ev q) (kk q)⟩
theorem js_par_dl (c : Cz G k N sc B X) (i j : Nat) {x y : Str} {px py pt : Pos} {kt k2 pt2} {l2 : List PyData} (h1 : JE G.K g X e1 ta ρ π d1 π1) (h2 : JL G.K g X e2 tb ρ π1 l2 π2) (hw : ∀ env : Env, env.scope = sc → swappedStores [.Tuple [.Name x px, .Name y py] kt pt] (.Tuple [e1, e2] k2 pt2) env = pure (some [x, y])) (kk : g → C.nx ((ρ.set i (.val d1)).set j (.own l2)) π2 := by exact fun _ => ⟨rfl, rfl⟩) (hij : i ≠ j := by decide) (hlj : j < ρ.length := by exact Nat.le_of_ble_eq_true rfl)
    (hi : N[i]? = some x := by rfl) (hj : N[j]? = some y := by rfl) (hx : sc.names.lookup x = some .local := by rfl) (hy : sc.names.lookup y = some .local := by rfl) (h1s : starEach (e1 :: [e2]) X.env = (false, eval e1 X.env) :: starEach [e2] X.env := by rfl) (h2s : starEach (e2 :: []) X.env = (false, eval e2 X.env) :: starEach [] X.env := by rfl)
    (hs : swapsWithSole [.Tuple [.Name x px, .Name y py] kt pt] (.Tuple [e1, e2] k2 pt2) pos.line X.env = pure false := by rfl) : JS G.K g X (.Assign [.Tuple [.Name x px, .Name y py] kt pt] (.Tuple [e1, e2] k2 pt2) pos) (tPar i j (tCons ta (tCons tb tNil))) ρ π C :=
  ⟨ps_par c.calm (by rw [c.N]; exact c.nd) (by rw [c.N]; exact hi) (by rw [c.N]; exact hj) hij (c.loc hx) (c.loc hy) (pa_cons h1.pe (pa_cons h2.pe pa_nil h2s) h1s) (hw _ c.sc) hs, fun q => es_par_dl hlj (h1.ev q) (h2.ev q) (kk q)⟩
theorem js_par_ll (c : Cz G k N sc B X) (i j : Nat) {x y : Str} {px py pt : Pos} {kt k2 pt2} {l1 l2 : List PyData} (h1 : JL G.K g X e1 ta ρ π l1 π1) (h2 : JL G.K g X e2 tb ρ π1 l2 π2) (hw : ∀ env : Env, env.scope = sc → swappedStores [.Tuple [.Name x px, .Name y py] kt pt] (.Tuple [e1, e2] k2 pt2) env = pure (some [x, y])) (kk : g → C.nx ((ρ.set i (.own l1)).set j (.own l2)) π2 := by exact fun _ => ⟨rfl, rfl⟩) (hij : i ≠ j := by decide) (hli : i < ρ.length := by exact Nat.le_of_ble_eq_true rfl) (hlj : j < ρ.length := by exact Nat.le_of_ble_eq_true rfl)
    (hi : N[i]? = some x := by rfl) (hj : N[j]? = some y := by rfl) (hx : sc.names.lookup x = some .local := by rfl) (hy : sc.names.lookup y = some .local := by rfl) (h1s : starEach (e1 :: [e2]) X.env = (false, eval e1 X.env) :: starEach [e2] X.env := by rfl) (h2s : starEach (e2 :: []) X.env = (false, eval e2 X.env) :: starEach [] X.env := by rfl)
    (hs : swapsWithSole [.Tuple [.Name x px, .Name y py] kt pt] (.Tuple [e1, e2] k2 pt2) pos.line X.env = pure false := by rfl) : JS G.K g X (.Assign [.Tuple [.Name x px, .Name y py] kt pt] (.Tuple [e1, e2] k2 pt2) pos) (tPar i j (tCons ta (tCons tb tNil))) ρ π C :=
  ⟨ps_par c.calm (by rw [c.N]; exact c.nd) (by rw [c.N]; exact hi) (by rw [c.N]; exact hj) hij (c.loc hx) (c.loc hy) (pa_cons h1.pe (pa_cons h2.pe pa_nil h2s) h1s) (hw _ c.sc) hs, fun q => es_par_ll hli hlj hij (h1.ev q) (h2.ev q) (kk q)⟩
theorem js_par3_ddd (c : Cz G k N sc B X) (i j l : Nat) {x y z : Str} {px py pz pt : Pos} {kt k2 pt2} (h1 : JE G.K g X e1 ta ρ π d1 π1) (h2 : JE G.K g X e2 tb ρ π1 d2 π2) (h3 : JE G.K g X e3 tc ρ π2 d3 π3) (hw : ∀ env : Env, env.scope = sc → swappedStores [.Tuple [.Name x px, .Name y py, .Name z pz] kt pt] (.Tuple [e1, e2, e3] k2 pt2) env = pure (some [x, y, z]))
    (kk : g → C.nx (((ρ.set i (.val d1)).set j (.val d2)).set l (.val d3)) π3 := by exact fun _ => ⟨rfl, rfl⟩) (hij : i ≠ j := by decide) (hil : i ≠ l := by decide) (hjl : j ≠ l := by decide)
    (hi : N[i]? = some x := by rfl) (hj : N[j]? = some y := by rfl) (hl : N[l]? = some z := by rfl) (hx : sc.names.lookup x = some .local := by rfl) (hy : sc.names.lookup y = some .local := by rfl) (hz : sc.names.lookup z = some .local := by rfl) (h1s : starEach (e1 :: [e2, e3]) X.env = (false, eval e1 X.env) :: starEach [e2, e3] X.env := by rfl) (h2s : starEach (e2 :: [e3]) X.env = (false, eval e2 X.env) :: starEach [e3] X.env := by rfl) (h3s : starEach (e3 :: []) X.env = (false, eval e3 X.env) :: starEach [] X.env := by rfl)
    (hs : swapsWithSole [.Tuple [.Name x px, .Name y py, .Name z pz] kt pt] (.Tuple [e1, e2, e3] k2 pt2) pos.line X.env = pure false := by rfl) : JS G.K g X (.Assign [.Tuple [.Name x px, .Name y py, .Name z pz] kt pt] (.Tuple [e1, e2, e3] k2 pt2) pos) (tPar3 i j l (tCons ta (tCons tb (tCons tc tNil)))) ρ π C :=
  ⟨ps_par3 c.calm (by rw [c.N]; exact c.nd) (by rw [c.N]; exact hi) (by rw [c.N]; exact hj) (by rw [c.N]; exact hl) hij hil hjl (c.loc hx) (c.loc hy) (c.loc hz) (pa_cons h1.pe (pa_cons h2.pe (pa_cons h3.pe pa_nil h3s) h2s) h1s) (hw _ c.sc) hs, fun q => es_par3_ddd (h1.ev q) (h2.ev q) (h3.ev q) (kk q)⟩
theorem js_par3_ddl (c : Cz G k N sc B X) (i j l : Nat) {x y z : Str} {px py pz pt : Pos} {kt k2 pt2} {l3 : List PyData} (h1 : JE G.K g X e1 ta ρ π d1 π1) (h2 : JE G.K g X e2 tb ρ π1 d2 π2) (h3 : JL G.K g X e3 tc ρ π2 l3 π3) (hw : ∀ env : Env, env.scope = sc → swappedStores [.Tuple [.Name x px, .Name y py, .Name z pz] kt pt] (.Tuple [e1, e2, e3] k2 pt2) env = pure (some [x, y, z]))
    (kk : g → C.nx (((ρ.set i (.val d1)).set j (.val d2)).set l (.own l3)) π3 := by exact fun _ => ⟨rfl, rfl⟩) (hij : i ≠ j := by decide) (hil : i ≠ l := by decide) (hjl : j ≠ l := by decide) (hll : l < ρ.length := by exact Nat.le_of_ble_eq_true rfl)
    (hi : N[i]? = some x := by rfl) (hj : N[j]? = some y := by rfl) (hl : N[l]? = some z := by rfl) (hx : sc.names.lookup x = some .local := by rfl) (hy : sc.names.lookup y = some .local := by rfl) (hz : sc.names.lookup z = some .local := by rfl) (h1s : starEach (e1 :: [e2, e3]) X.env = (false, eval e1 X.env) :: starEach [e2, e3] X.env := by rfl) (h2s : starEach (e2 :: [e3]) X.env = (false, eval e2 X.env) :: starEach [e3] X.env := by rfl) (h3s : starEach (e3 :: []) X.env = (false, eval e3 X.env) :: starEach [] X.env := by rfl)
    (hs : swapsWithSole [.Tuple [.Name x px, .Name y py, .Name z pz] kt pt] (.Tuple [e1, e2, e3] k2 pt2) pos.line X.env = pure false := by rfl) : JS G.K g X (.Assign [.Tuple [.Name x px, .Name y py, .Name z pz] kt pt] (.Tuple [e1, e2, e3] k2 pt2) pos) (tPar3 i j l (tCons ta (tCons tb (tCons tc tNil)))) ρ π C :=
  ⟨ps_par3 c.calm (by rw [c.N]; exact c.nd) (by rw [c.N]; exact hi) (by rw [c.N]; exact hj) (by rw [c.N]; exact hl) hij hil hjl (c.loc hx) (c.loc hy) (c.loc hz) (pa_cons h1.pe (pa_cons h2.pe (pa_cons h3.pe pa_nil h3s) h2s) h1s) (hw _ c.sc) hs, fun q => es_par3_ddl hll (h1.ev q) (h2.ev q) (h3.ev q) (kk q)⟩
/-- targets from a told tuple -/
theorem js_unpack2 (c : Cz G k N sc B X) (i j : Nat) {x y : Str} {px py pt : Pos} {kt} (h : JE G.K g X e te ρ π (.tuple [d1, d2]) π1) (kk : g → C.nx ((ρ.set i (.val d1)).set j (.val d2)) π1 := by exact fun _ => ⟨rfl, rfl⟩) (hi : N[i]? = some x := by rfl) (hj : N[j]? = some y := by rfl)
    (hx : sc.names.lookup x = some .local ∨ (B = true ∧ sc.names.lookup x = some .cell) := by first | exact .inl rfl | exact .inr ⟨rfl, rfl⟩) (hy : sc.names.lookup y = some .local ∨ (B = true ∧ sc.names.lookup y = some .cell) := by first | exact .inl rfl | exact .inr ⟨rfl, rfl⟩)
    (hs : swapsWithSole [.Tuple [.Name x px, .Name y py] kt pt] e pos.line X.env = pure false := by rfl) (hw : swappedStores [.Tuple [.Name x px, .Name y py] kt pt] e X.env = pure none := by rfl) : JS G.K g X (.Assign [.Tuple [.Name x px, .Name y py] kt pt] e pos) (tAsg te (gTup G.K 2 (gCons (gName i) (gCons (gName j) gNil)))) ρ π C :=
  ⟨ps_asg h.pe (by have q := pg_tup (X := X) (pos := pt) (k := kt) (es := [.Name x px, .Name y py]) c.calm (pgs_cons (pg_nameG c i hi hx) (pgs_cons (pg_nameG c j hj hy) pgs_nil)); rw [c.K] at q; exact q) hs hw, fun q w H σ D R n r b t => (h.ev q) w H σ R _ fun v H1 e1 p1 q1 =>
    eg_tup2 w π1 H1 σ v (R.step e1 p1) q1 _ fun σ' R' => n w.ad _ _ _ _ (kk q) R'⟩
theorem js_unpack3 (c : Cz G k N sc B X) (i j l : Nat) {x y z : Str} {px py pz pt : Pos} {kt} (h : JE G.K g X e te ρ π (.tuple [d1, d2, d3]) π1) (kk : g → C.nx (((ρ.set i (.val d1)).set j (.val d2)).set l (.val d3)) π1 := by exact fun _ => ⟨rfl, rfl⟩) (hi : N[i]? = some x := by rfl) (hj : N[j]? = some y := by rfl) (hl : N[l]? = some z := by rfl)
    (hx : sc.names.lookup x = some .local ∨ (B = true ∧ sc.names.lookup x = some .cell) := by first | exact .inl rfl | exact .inr ⟨rfl, rfl⟩) (hy : sc.names.lookup y = some .local ∨ (B = true ∧ sc.names.lookup y = some .cell) := by first | exact .inl rfl | exact .inr ⟨rfl, rfl⟩) (hz : sc.names.lookup z = some .local ∨ (B = true ∧ sc.names.lookup z = some .cell) := by first | exact .inl rfl | exact .inr ⟨rfl, rfl⟩)
    (hs : swapsWithSole [.Tuple [.Name x px, .Name y py, .Name z pz] kt pt] e pos.line X.env = pure false := by rfl) (hw : swappedStores [.Tuple [.Name x px, .Name y py, .Name z pz] kt pt] e X.env = pure none := by rfl) : JS G.K g X (.Assign [.Tuple [.Name x px, .Name y py, .Name z pz] kt pt] e pos) (tAsg te (gTup G.K 3 (gCons (gName i) (gCons (gName j) (gCons (gName l) gNil))))) ρ π C :=
  ⟨ps_asg h.pe (by have q := pg_tup (X := X) (pos := pt) (k := kt) (es := [.Name x px, .Name y py, .Name z pz]) c.calm (pgs_cons (pg_nameG c i hi hx) (pgs_cons (pg_nameG c j hj hy) (pgs_cons (pg_nameG c l hl hz) pgs_nil))); rw [c.K] at q; exact q) hs hw, fun q w H σ D R n r b t => (h.ev q) w H σ R _ fun v H1 e1 p1 q1 =>
    eg_tup3 w π1 H1 σ v (R.step e1 p1) q1 _ fun σ' R' => n w.ad _ _ _ _ (kk q) R'⟩
end
end JD

/-! ## JDOwn -/
set_option Elab.async false
set_option linter.all false
set_option maxRecDepth 100000
set_option maxHeartbeats 2000000
/-! JD: own lists changed, read; the pot; a def's body -/
namespace JD
open PySem PySem.Spec PyProof.Rows L2

section
variable {K : PySem.W.Frag} {ρ : List Sl} {π π1 π2 : Pot} {C : Cont} {te tb : TE} {d : PyData} {ds es : List PyData}
theorem Rel.mutAll {w : Wd} {H : Hp} {σ : L2.St} (R : Rel K w ρ π H σ) {i : Nat} (h : ρ[i]? = some (.own ds)) : ∃ xs, σ[i]? = some (some (.ref (w.ad i))) ∧ H (w.ad i) = some (.lst xs) ∧ DpAll K (mask (w.M ρ) H) xs ds ∧
    ∀ ys es, DpAll K (mask (w.M ρ) H) ys es → Rel K w (ρ.set i (.own es)) π (upd H (w.ad i) (.lst ys)) σ := by
  obtain ⟨xs, h1, h2, h3⟩ := R.owns i ds h
  exact ⟨xs, h1, h2, h3, fun ys es hy => R.mut h hy⟩
theorem es_append {i : Nat} (h : ρ[i]? = some (.own ds)) (hz : ds.length < sizeLine) (he : EvD K te ρ π d π1) (k : C.nx (ρ.set i (.own (ds ++ [d]))) π1) : EvS K (tDrop (tBM K "list" rAppend (tVar i) (tCons te tNil))) ρ π C := fun w H σ D R n r b t => by
  obtain ⟨xs, h1, h2, h3⟩ := R.owns i ds h
  refine ⟨_, h1, .inl ⟨rfl, _, .inl (.inl h2)⟩, he w H σ R _ fun v H1 e1 p1 q1 => ?_⟩
  have R1 := R.step e1 p1
  obtain ⟨ys, h1', h2', h3', go⟩ := R1.mutAll h
  have R2 := go (ys ++ [v]) (ds ++ [d]) (h3'.app (.one q1))
  exact ⟨_, ys, v, rfl, rfl, h2', by rw [h3'.len]; exact hz, n w.ad _ _ _ _ k R2⟩
/-- own.extend(a new list) -/
theorem es_extend {i : Nat} (h : ρ[i]? = some (.own ds)) (hz : ds.length + es.length ≤ sizeLine) (he : EvL K te ρ π es π1) (k : C.nx (ρ.set i (.own (ds ++ es))) π1) : EvS K (tDrop (tBM K "list" rExtend (tVar i) (tCons te tNil))) ρ π C := fun w H σ D R n r b t => by
  obtain ⟨xs, h1, h2, h3⟩ := R.owns i ds h
  refine ⟨_, h1, .inl ⟨rfl, _, .inl (.inl h2)⟩, he w H σ R _ fun p zs H1 e1 p1 hn hp ha => ?_⟩
  have R1 := R.step e1 p1
  obtain ⟨ys, h1', h2', h3', go⟩ := R1.mutAll h
  have ha' : DpAll K (mask (w.M ρ) H1) zs es := DpAll.up (mask_mono fun a o n h => ⟨fun m => n (.inl m), h⟩) _ ha
  exact ⟨_, p, ys, zs, rfl, rfl, h2', hp, by rw [h3'.len, ha'.len]; exact hz, n w.ad _ _ _ _ k (go _ _ (h3'.app ha'))⟩
/-- own.extend(another own list) -/
theorem es_extendO {i j : Nat} (h : ρ[i]? = some (.own ds)) (h' : ρ[j]? = some (.own es)) (hz : ds.length + es.length ≤ sizeLine) (k : C.nx (ρ.set i (.own (ds ++ es))) π) : EvS K (tDrop (tBM K "list" rExtend (tVar i) (tCons (tVar j) tNil))) ρ π C := fun w H σ D R n r b t => by
  obtain ⟨xs, h1, h2, h3, go⟩ := R.mutAll h
  obtain ⟨ys, g1, g2, g3⟩ := R.owns j es h'
  exact ⟨_, h1, .inl ⟨rfl, _, .inl (.inl h2)⟩, _, g1, _, _, xs, ys, rfl, rfl, h2, g2, by rw [h3.len, g3.len]; exact hz, n w.ad _ _ _ _ k (go _ _ (h3.app g3))⟩
/-- own[i] = v -/
theorem es_setOwn {i j : Nat} {z : Int} (h : ρ[i]? = some (.own ds)) (he : EvD K te ρ π d π1) (hi : EvD K tb ρ π1 (.int z) π2) (hj : ixN ds.length z = some j) (k : C.nx (ρ.set i (.own (ds.set j d))) π2) : EvS K (tAsg te (gSub (tVar i) tb rSetL)) ρ π C := fun w H σ D R n r b t =>
  he w H σ R _ fun v H1 e1 p1 q1 => by
    have R1 := R.step e1 p1
    obtain ⟨ys, h1', h2', h3', go⟩ := R1.mutAll h
    refine ⟨_, h1', hi w H1 σ R1 _ fun y H2 e2 p2 q2 => ?_⟩
    cases q2
    have R2 := R1.step e2 p2
    obtain ⟨zs, g1, g2, g3, go⟩ := R2.mutAll h
    exact ⟨_, zs, z, j, rfl, rfl, g2, by rw [g3.len]; exact hj, n w.ad _ _ _ _ k (go _ _ (DpAll.set (Dp.up (R1.maskUp e2) _ q1) j g3))⟩
/-- an item of an own list -/
theorem ev_ixOwn {i : Nat} {z : Int} (h : ρ[i]? = some (.own ds)) (hi : EvD K tb ρ π (.int z) π1) (hd : atI ds z = some d) : EvD K (tOp (rIxL K) (tVar i) tb) ρ π d π1 := fun w H σ R Q q => by
  obtain ⟨xs, h1, h2, h3⟩ := R.owns i ds h
  refine ⟨_, h1, hi w H σ R _ fun y H1 e1 p1 q1 => ?_⟩
  cases q1
  have R1 := R.step e1 p1
  obtain ⟨ys, g1, g2, g3⟩ := R1.owns i ds h
  obtain ⟨j, hj, hv⟩ : ∃ j, ixN ds.length z = some j ∧ ds[j]? = some d := by
    unfold atI at hd
    cases e : ixN ds.length z with
    | none => rw [e] at hd; cases hd
    | some j => rw [e] at hd; exact ⟨j, rfl, hd⟩
  obtain ⟨v, hv1, hv2⟩ := g3.get hv
  refine ⟨_, ys, z, v, rfl, rfl, .inl (.inl g2), ?_, q v H1 e1 p1 hv2⟩
  unfold atI
  rw [g3.len, hj]
  exact hv1
/-- the length of an own list -/
theorem ev_lenOwn {i : Nat} (h : ρ[i]? = some (.own ds)) : EvD K (tCB (fun xs H Q => ∃ p ys, xs = [.ref p] ∧ (SqL K H p ys ∨ SqT K H p ys) ∧ Q (.int ys.length) H) (tCons (tVar i) tNil)) ρ π (.int ds.length) π := fun w H σ R Q q => by
  obtain ⟨xs, h1, h2, h3⟩ := R.owns i ds h
  exact ⟨_, h1, _, xs, rfl, .inl (.inl (.inl h2)), q _ H (Ext.refl H) R.pot (by rw [h3.len]; exact .int _)⟩
def scalD : PyData → Bool
  | .none => true
  | .bool _ => true
  | .int _ => true
  | .str _ => true
  | _ => false
theorem dp_scal {H H' : Hp} {v : V} (hs : scalD d = true) (h : Dp K H v d) : Dp K H' v d := by
  cases h with
  | non => exact .non
  | bl b => exact .bl b
  | int i => exact .int i
  | str x => exact .str x
  | lst _ _ => cases hs
  | tup _ _ => cases hs
/-- what is read as if the own list of slot i were data -/
theorem ev_lend {i : Nat} (h : ρ[i]? = some (.own ds)) (he : EvD K te (ρ.set i (.val (.list ds))) π d π1) (hs : scalD d = true) : EvD K te ρ π d π1 := fun w H σ R Q q =>
  he w H σ (R.freeze h) Q fun v H' e p dp => q v H' e p (dp_scal hs dp)
theorem et_lend {i : Nat} {tt : TT} {b : Bool} (h : ρ[i]? = some (.own ds)) (he : EvT K tt (ρ.set i (.val (.list ds))) π b π1) : EvT K tt ρ π b π1 := fun w H σ R Q q => he w H σ (R.freeze h) Q q
/-- an item of the pot -/
theorem ev_ixPot {i : Nat} {z : Int} {v : Int} (h : ρ[i]? = some .pot) (hi : EvD K tb ρ π (.int z) π1) (hv : atI π1.vs z = some (.int v)) : EvD K (tOp (rIxL K) (tVar i) tb) ρ π (.int v) π1 := fun w H σ R Q q => by
  obtain ⟨p, h1, h2⟩ := R.pots i h
  refine ⟨_, h2, hi w H σ R _ fun y H1 e1 p1 q1 => ?_⟩
  cases q1
  exact ⟨_, π1.vs, z, .int v, rfl, rfl, .inl (.inl (p1 p h1)), hv, q _ H1 e1 p1 (.int v)⟩
theorem Rel.setPot {w : Wd} {H : Hp} {σ : L2.St} (R : Rel K w ρ π H σ) {p : Addr} (hp : w.P = some p) (π' : Pot) : Rel K w ρ π' (upd H p (.lst π'.vs)) σ :=
  R.step (fun b o n e => by rw [upd_ne (fun z => n (by rw [hp, z]))]; exact e) fun q e => by
    rw [hp] at e; cases e; exact upd_same
/-- pot[z] = v -/
theorem es_setPot {i : Nat} {z : Int} {v : Int} {j : Nat} {π' : Pot} (h : ρ[i]? = some .pot) (he : EvD K te ρ π (.int v) π1) (hi : EvD K tb ρ π1 (.int z) π2) (hj : ixN 3 z = some j) (hv : π2.vs.set j (.int v) = π'.vs) (k : C.nx ρ π') : EvS K (tAsg te (gSub (tVar i) tb rSetL)) ρ π C := fun w H σ D R n r b t =>
  he w H σ R _ fun x H1 e1 p1 q1 => by
    cases q1
    have R1 := R.step e1 p1
    obtain ⟨p, h1, h2⟩ := R1.pots i h
    refine ⟨_, h2, hi w H1 σ R1 _ fun y H2 e2 p2 q2 => ?_⟩
    cases q2
    have R2 := R1.step e2 p2
    refine ⟨p, π2.vs, z, j, rfl, rfl, p2 p h1, hj, ?_⟩
    rw [hv]
    exact n w.ad _ _ _ _ k (R2.setPot h1 π')
/-- own.append(other.pop(z)) -/
theorem es_appendPop {i l j : Nat} {z : Int} (hil : i ≠ l) (h : ρ[i]? = some (.own ds)) (h' : ρ[l]? = some (.own es)) (hz : ds.length < sizeLine) (he : EvD K te ρ π (.int z) π1) (hb : -(2 ^ 63) ≤ z ∧ z < 2 ^ 63) (hj : seqIndex? z es.length = some j) (hd : es[j]? = some d) (k : C.nx ((ρ.set l (.own (es.eraseIdx j))).set i (.own (ds ++ [d]))) π1) :
    EvS K (tDrop (tBM K "list" rAppend (tVar i) (tCons (tBM K "list" rPopAt (tVar l) (tCons te tNil)) tNil))) ρ π C := fun w H σ D R n r b t => by
  obtain ⟨xs, h1, h2, h3⟩ := R.owns i ds h
  obtain ⟨ys, g1, g2, g3⟩ := R.owns l es h'
  refine ⟨_, h1, .inl ⟨rfl, _, .inl (.inl h2)⟩, _, g1, .inl ⟨rfl, _, .inl (.inl g2)⟩, he w H σ R _ fun y H1 e1 p1 q1 => ?_⟩
  cases q1
  have R1 := R.step e1 p1
  obtain ⟨zs, f1, f2, f3, go⟩ := R1.mutAll h'
  obtain ⟨v, hv1, hv2⟩ := f3.get hd
  have R2 := go _ _ (DpAll.erase j f3)
  refine ⟨_, zs, z, j, v, rfl, rfl, f2, hb.1, hb.2, by rw [f3.len]; exact hj, hv1, ?_⟩
  have hi2 : (ρ.set l (.own (es.eraseIdx j)))[i]? = some (.own ds) := by rw [List.getElem?_set_ne (Ne.symm hil)]; exact h
  obtain ⟨us, u1, u2, u3, go2⟩ := R2.mutAll hi2
  have hv3 : Dp K (mask (w.M (ρ.set l (.own (es.eraseIdx j)))) (upd H1 (w.ad l) (.lst (zs.eraseIdx j)))) v d := Dp.up (fun b o e => by
    obtain ⟨nb, eb⟩ := mask_some e
    have ne : b ≠ w.ad l := fun z => nb (.inr ⟨l, ⟨_, h', trivial⟩, z⟩)
    rw [mask_out (fun m => nb (by
      rcases m with m | ⟨t, ⟨s, hs1, hs2⟩, ht⟩
      · exact .inl m
      · by_cases c : l = t
        · subst c; exact .inr ⟨l, ⟨_, h', trivial⟩, ht⟩
        · rw [List.getElem?_set_ne c] at hs1; exact .inr ⟨t, ⟨s, hs1, hs2⟩, ht⟩)), upd_ne ne]
    exact eb) _ hv2
  exact ⟨_, us, v, rfl, rfl, u2, by rw [u3.len]; exact hz, n w.ad _ _ _ _ k (go2 _ _ (u3.app (.one hv3)))⟩
end

section
variable {G : Glb} {k : Nat} {N : List Str} {sc : Scope} {B : Bool} {X : Cx} {g : Prop} {ρ : List Sl} {π π1 π2 : Pot} {C : Cont} {e e1 : Expr} {te tb : TE} {d : PyData} {ds es : List PyData} {pos : Pos}
theorem pvG (c : Cz G k N sc B X) (i : Nat) {x : Str} {pos : Pos} (hN : N[i]? = some x := by rfl) (hv : Vis sc x := by first | exact Or.inl rfl | exact Or.inr (Or.inl rfl) | exact Or.inr (Or.inr rfl)) (hd : (x == ("__debug__" : Str)) = false := by decide) (hcd : (x == ("__classdict__" : Str)) = false := by decide) : PE X (.Name x pos) (tVar i) :=
  pe_var (by rw [c.N]; exact hN) (c.vis hv) hd hcd
theorem pe_bmG {T id : String} {name : Str} {r : V → List V → Hp → VK → Prop} {o : Expr} {es : List Expr} {to : TE} {t : TA} {apos : Pos} (c : Cz G k N sc B X) (pa : PlainAttrs T) (slot : Slot T name id) (hty : typeOf (.builtin id) = pure (.type "method_descriptor")) (hm : MtR X id r) (ho : PE X o to) (ha : PA X (e :: es) t)
    (h : PE X (.Call (.Attribute o name apos) (e :: es) [] pos) (tBM X.K T r to t)) : PE X (.Call (.Attribute o name apos) (e :: es) [] pos) (tBM G.K T r to t) := by
  rw [c.K] at h; exact h
theorem je_lend (i : Nat) (h : ρ[i]? = some (.own ds)) (he : JE G.K g X e te (ρ.set i (.val (.list ds))) π d π1) (hs : scalD d = true := by rfl) : JE G.K g X e te ρ π d π1 := ⟨he.pe, fun q => ev_lend h (he.ev q) hs⟩
theorem jt_lend (i : Nat) {tt : TT} {b : Bool} (h : ρ[i]? = some (.own ds)) (he : JT G.K g X e tt (ρ.set i (.val (.list ds))) π b π1) : JT G.K g X e tt ρ π b π1 := ⟨he.pt, fun q => et_lend h (he.ev q)⟩
/-- a def's body -/
def startR (N : List Str) (as : List Ag) : List Sl := as.map (fun a => match a with
  | .d x => .val x
  | .pot => .pot) ++ List.replicate (N.length - as.length) .un
theorem start_get {N : List Str} {vs : List V} {i : Nat} (h : i < vs.length) : (start N vs)[i]? = (vs[i]?).map some := by
  unfold L2.start
  rw [List.getElem?_append_left (by rw [List.length_map]; exact h), List.getElem?_map]
theorem AgAll.getA {K : PySem.W.Frag} {P : Option Addr} {H : Hp} : ∀ {vs : List V} {as : List Ag} {i : Nat} {a : Ag}, AgAll K P H vs as → as[i]? = some a → ∃ v, vs[i]? = some v ∧ (match a with
    | .d x => Dp K H v x
    | .pot => ∃ p, P = some p ∧ v = .ref p)
  | _, _, _, _, .nil, e => by simp at e
  | _, _, 0, _, .d h _, e => by simp at e; subst e; exact ⟨_, rfl, h⟩
  | _, _, 0, _, .pot h _, e => by simp at e; subst e; exact ⟨_, rfl, _, h, rfl⟩
  | _, _, i + 1, _, .d _ t, e => by simpa using AgAll.getA (i := i) t (by simpa using e)
  | _, _, i + 1, _, .pot _ t, e => by simpa using AgAll.getA (i := i) t (by simpa using e)
theorem rel_start {K : PySem.W.Frag} {P : Option Addr} {L0 : Addr → Prop} {H : Hp} {vs : List V} {as : List Ag} {π : Pot} {N : List Str} (dm : ∀ a, L0 a → H a ≠ none) (pl : ∀ p, P = some p → L0 p) (hp : potAt P π H) (ha : AgAll K P (mask L0 H) vs as) (hl : as.length ≤ N.length) :
    Rel K ⟨P, L0, H, fun _ => 0⟩ (startR N as) π H (start N vs) := by
  have no : ∀ i, ¬ ownAt (startR N as) i := fun i ⟨s, h1, h2⟩ => by
    unfold startR at h1
    by_cases c : i < as.length
    · rw [List.getElem?_append_left (by rw [List.length_map]; exact c), List.getElem?_map, List.getElem?_eq_getElem c] at h1
      have h1 := Option.some.inj h1
      subst h1
      cases e : as[i] <;> rw [e] at h2 <;> exact h2
    · rw [List.getElem?_append_right (by rw [List.length_map]; omega), List.getElem?_replicate] at h1
      split at h1
      · cases h1; exact h2
      · cases h1
  have mm : ∀ a, Wd.M ⟨P, L0, H, fun _ => 0⟩ (startR N as) a ↔ L0 a := fun a => ⟨fun m => m.elim id fun ⟨i, hi, _⟩ => absurd hi (no i), .inl⟩
  have up : Same (mask L0 H) (mask (Wd.M ⟨P, L0, H, fun _ => 0⟩ (startR N as)) H) := mask_mono fun a o n h => ⟨fun m => n ((mm a).mp m), h⟩
  have get : ∀ {i : Nat} {s : Sl}, (startR N as)[i]? = some s → s ≠ .un → ∃ a, as[i]? = some a ∧ s = (match a with
    | .d x => .val x
    | .pot => .pot) := fun {i s} h ne => by
    unfold startR at h
    by_cases c : i < as.length
    · rw [List.getElem?_append_left (by rw [List.length_map]; exact c), List.getElem?_map, List.getElem?_eq_getElem c] at h
      exact ⟨as[i], List.getElem?_eq_getElem c, (Option.some.inj h).symm⟩
    · rw [List.getElem?_append_right (by rw [List.length_map]; omega), List.getElem?_replicate] at h
      split at h
      · cases h; exact absurd rfl ne
      · cases h
  refine ⟨?_, pl, hp, Ext.refl H, dm, fun i h => absurd h (no i), fun i h => absurd h (no i), fun i j h => absurd h (no i), fun i d h => ?_, fun i ds h => absurd ⟨_, h, trivial⟩ (no i), fun i kvs h => absurd ⟨_, h, trivial⟩ (no i), fun i h => ?_⟩
  · unfold L2.start startR
    rw [List.length_append, List.length_append, List.length_map, List.length_map, List.length_replicate, List.length_replicate, ha.length]
  · obtain ⟨a, h1, h2⟩ := get h nofun
    obtain ⟨v, hv, hd⟩ := ha.getA h1
    cases a with
    | d x =>
      cases h2
      refine ⟨v, ?_, Dp.up up _ hd⟩
      rw [start_get (List.getElem?_eq_some_iff.mp hv).1, hv]; rfl
    | pot => cases h2
  · obtain ⟨a, h1, h2⟩ := get h nofun
    obtain ⟨v, hv, hd⟩ := ha.getA h1
    cases a with
    | d x => cases h2
    | pot =>
      obtain ⟨p, e1, e2⟩ := hd
      subst e2
      refine ⟨p, e1, ?_⟩
      rw [start_get (List.getElem?_eq_some_iff.mp hv).1, hv]; rfl
end
/-- what a body is to come to -/
def toEnd (d : PyData) (π : Pot) : Cont := { nx := fun _ π' => d = .none ∧ π' = π, rt := fun d' π' => d' = d ∧ π' = π }
theorem fnG {G : Glb} {k : Nat} {f : Addr} {fd : FuncData} {x qual : Str} {params : Arguments} {body : List Stmt} {scope : Scope} {N ps : List Str} {R : Says} (F : FunD G.K x qual params body scope [] [] f fd) (S : FnScope N ps scope) (len : ∀ π as d π', R π as d π' → as.length = ps.length)
    (hb : ∀ X, Cz G k N scope true X → ∀ π as d π', R π as d π' → ∃ ts, JSs G.K True X body ts (startR N as) π (toEnd d π')) : FnG G (k + 1) f fd ps R := by
  refine ⟨len, fun A outer s H args us vs Q hr hg e0 hbind r hsp => ?_⟩
  obtain ⟨oc, od, dV, kV, doc, pm, an, cdv, ct, osl, rfl, lk, hcd, _, _⟩ := F.ex
  obtain ⟨P, L0, as, π, d, π', dm, pl, hp, ha, hR, hQ⟩ := hsp
  have hlv : vs.length = ps.length := by rw [ha.length]; exact len _ _ _ _ hR
  have hps : ps.length ≤ N.length := by have q := congrArg List.length S.pre; rw [List.length_take] at q; omega
  have KX : G.K.In s.heap := e0.mod.kin.keeps fun b o e => (e0.bs b o e).1
  have lim : s.heap.NoLimit := e0.mod.nolimit.keeps fun b o e => (e0.bs b o e).1
  have hkind : ∀ y ∈ ps.zip us, scope.names.lookup y.1 = some .local ∨ (scope.names.lookup y.1 = some .cell ∧ ((cellsFrom (s.heap.objs.size + 1) scope.names []).lookup y.1).isSome = true) := fun y hy => by
    rcases S.par y.1 (List.of_mem_zip (a := y.1) (b := y.2) hy).1 with q | q
    · exact .inl q
    · exact .inr ⟨q, PySem.W.cellsFrom_some _ _ _ (.inl q)⟩
  refine codeAny_call_function hr.depth (KX _ _ lk) rfl S.co S.gen rfl (PySem.W.codeRec_of KX hcd) (hbind _ _ _ _ ?_)
  refine wpAny_newFunctionEnv_cells S.kind hkind fun env he s1 x => ?_
  subst he
  refine ⟨lim.keeps x.toInCall.keep, codeAny_func ?_⟩
  let Y : Cx := (cxOf CX0 G.prog G.w G.K G.mg G.base N qual scope f cdv A outer s H E0).nox
  have cz : Cz G k N scope true Y := ⟨rfl, rfl, rfl, rfl, rfl, rfl, hg, hr.deeper _, rfl, S.nd, rfl, rfl, fun _ _ => rfl⟩
  obtain ⟨ts, J⟩ := hb Y cz π as d π' hR
  have I0 : Inv (cxOf CX0 G.prog G.w G.K G.mg G.base N qual scope f cdv A outer s H E0) [] (start N vs) H s1 := inv_start S hr.hd e0 hlv r x
  have I : Inv Y [] (start N vs) H s1 := I0.wish _
  have Rl := rel_start (N := N) dm pl hp ha (by rw [← ha.length, hlv]; exact hps)
  have body := J.pss.run [] s1 (start N vs) H { nx := fun _ H' => Q .non H', rt := Q } I (J.ev trivial _ H (start N vs) _ Rl (fun ad ρ' π1 H' σ' ⟨e1, e2⟩ R' => by
    subst e1 e2
    exact hQ .non H' R'.ext R'.pot .non) (fun v d1 π1 H' ⟨e1, e2⟩ _ ex pt dp => by
    subst e1 e2
    exact hQ v H' ex pt dp) (fun _ _ _ _ _ z => z.elim) fun _ _ _ _ _ z => z.elim)
  refine wpAny_mono body (fun fl s' hs => ?_) fun e s' hs => hs.elim
  have fin : ∀ {σ' : L2.St} {H' : Hp} {v : V} {u : Value}, Inv Y [] σ' H' s' → RelV v u → Q v H' → CE outer G.prog G.w H s Q u s' := fun {σ' H' v u} J rv q => ⟨v, H', J.os, J.bare, J.base, J.hok, rv, q⟩
  cases fl with
  | ret u =>
    obtain ⟨v, σ', H', J, rv, q⟩ := hs
    exact fin J rv q
  | next =>
    obtain ⟨σ', H', J, q⟩ := hs
    exact fin (v := V.non) (u := Value.none) J rfl q
  | brk =>
    obtain ⟨_, _, _, q⟩ := hs
    exact False.elim q
  | cont =>
    obtain ⟨_, _, _, q⟩ := hs
    exact False.elim q
end JD

/-! ## JDOps -/
set_option Elab.async false
set_option linter.all false
set_option maxRecDepth 100000
set_option maxHeartbeats 2000000
/-! JD: operators and built-ins by what they come to -/
namespace JD
open PySem PySem.Spec PyProof.Rows L2

section
variable {K : PySem.W.Frag}
/-! ### whole numbers -/
theorem rv_I0 {f : Int → Int → V} {i j : Int} {d : PyData} (h : ∀ H, Dp K H (f i j) d) : RvD K (rI0 f) (.int i) (.int j) d := fun M H v1 v2 dm h1 h2 Q q => by
  cases h1; cases h2
  exact ⟨i, j, rfl, rfl, q _ H (Same.refl H) (h _)⟩
theorem rv_I {C : Int → Int → Prop} {f : Int → Int → V} {i j : Int} {d : PyData} (hc : C i j) (h : ∀ H, Dp K H (f i j) d) : RvD K (rI C f) (.int i) (.int j) d := fun M H v1 v2 dm h1 h2 Q q => by
  cases h1; cases h2
  exact ⟨i, j, rfl, rfl, hc, q _ H (Same.refl H) (h _)⟩
theorem rv_add {i j : Int} : RvD K (rI0 fun i j => .int (i + j)) (.int i) (.int j) (.int (i + j)) := rv_I0 fun _ => .int _
theorem rv_sub {i j : Int} : RvD K (rI0 fun i j => .int (i - j)) (.int i) (.int j) (.int (i - j)) := rv_I0 fun _ => .int _
theorem rv_mul {i j : Int} (h : CMul i j) : RvD K (rI CMul fun i j => .int (i * j)) (.int i) (.int j) (.int (i * j)) := rv_I h fun _ => .int _
theorem rv_mod {i j : Int} (h : 0 < j) : RvD K (rI (fun _ j => 0 < j) fun i j => .int (i % j)) (.int i) (.int j) (.int (i % j)) := rv_I h fun _ => .int _
theorem rv_fdiv {i j : Int} (h : CDiv i j) : RvD K (rI CDiv fun i j => .int (i / j)) (.int i) (.int j) (.int (i / j)) := rv_I h fun _ => .int _
theorem rv_lt {i j : Int} : RvD K (rI0 fun i j => .bl (decide (i < j))) (.int i) (.int j) (.bool (decide (i < j))) := rv_I0 fun _ => .bl _
theorem rv_le {i j : Int} : RvD K (rI0 fun i j => .bl (decide (i ≤ j))) (.int i) (.int j) (.bool (decide (i ≤ j))) := rv_I0 fun _ => .bl _
theorem rv_gt {i j : Int} : RvD K (rI0 fun i j => .bl (decide (j < i))) (.int i) (.int j) (.bool (decide (j < i))) := rv_I0 fun _ => .bl _
theorem rv_ge {i j : Int} : RvD K (rI0 fun i j => .bl (decide (j ≤ i))) (.int i) (.int j) (.bool (decide (j ≤ i))) := rv_I0 fun _ => .bl _
theorem ru_neg {i : Int} : RuD K (rU fun i => .int (-i)) (.int i) (.int (-i)) := fun M H v dm h Q q => by
  cases h
  exact ⟨i, rfl, q _ H (Same.refl H) (.int _)⟩
/-! ### == and != of scalars -/
theorem decI {i j : Int} : decide (V.int i = V.int j) = decide (i = j) := by
  by_cases h : i = j
  · subst h; simp
  · rw [decide_eq_false h, decide_eq_false (fun z => h (V.int.inj z))]
theorem decS {i j : Str} : decide (V.str i = V.str j) = decide (i = j) := by
  by_cases h : i = j
  · subst h; simp
  · rw [decide_eq_false h, decide_eq_false (fun z => h (V.str.inj z))]
theorem decB {i j : Bool} : decide (V.bl i = V.bl j) = decide (i = j) := by
  by_cases h : i = j
  · subst h; simp
  · rw [decide_eq_false h, decide_eq_false (fun z => h (V.bl.inj z))]
theorem rv_eqI {i j : Int} : RvD K rEq (.int i) (.int j) (.bool (decide (i = j))) := fun M H v1 v2 dm h1 h2 Q q => by
  cases h1; cases h2
  exact ⟨rfl, by rw [decI]; exact q _ H (Same.refl H) (.bl _)⟩
theorem rv_neI {i j : Int} : RvD K rNe (.int i) (.int j) (.bool (!decide (i = j))) := fun M H v1 v2 dm h1 h2 Q q => by
  cases h1; cases h2
  exact ⟨rfl, by rw [decI]; exact q _ H (Same.refl H) (.bl _)⟩
theorem rv_eqS {i j : Str} : RvD K rEq (.str i) (.str j) (.bool (decide (i = j))) := fun M H v1 v2 dm h1 h2 Q q => by
  cases h1; cases h2
  exact ⟨rfl, by rw [decS]; exact q _ H (Same.refl H) (.bl _)⟩
theorem rv_neS {i j : Str} : RvD K rNe (.str i) (.str j) (.bool (!decide (i = j))) := fun M H v1 v2 dm h1 h2 Q q => by
  cases h1; cases h2
  exact ⟨rfl, by rw [decS]; exact q _ H (Same.refl H) (.bl _)⟩
theorem rv_eqB {i j : Bool} : RvD K rEq (.bool i) (.bool j) (.bool (decide (i = j))) := fun M H v1 v2 dm h1 h2 Q q => by
  cases h1; cases h2
  exact ⟨rfl, by rw [decB]; exact q _ H (Same.refl H) (.bl _)⟩
theorem rv_neB {i j : Bool} : RvD K rNe (.bool i) (.bool j) (.bool (!decide (i = j))) := fun M H v1 v2 dm h1 h2 Q q => by
  cases h1; cases h2
  exact ⟨rfl, by rw [decB]; exact q _ H (Same.refl H) (.bl _)⟩
theorem rv_isB {i j : Bool} : RvD K rIsB (.bool i) (.bool j) (.bool (decide (i = j))) := fun M H v1 v2 dm h1 h2 Q q => by
  cases h1; cases h2
  exact ⟨i, j, rfl, rfl, q _ H (Same.refl H) (.bl _)⟩
theorem rv_notB {i j : Bool} : RvD K rNotB (.bool i) (.bool j) (.bool (!decide (i = j))) := fun M H v1 v2 dm h1 h2 Q q => by
  cases h1; cases h2
  exact ⟨i, j, rfl, rfl, q _ H (Same.refl H) (.bl _)⟩
/-! ### == and != of data -/
theorem rv_eqD {d e : PyData} (hd : SeqAt.shaped d = true) (he : SeqAt.shaped e = true) : RvD K (rEqD K) d e (.bool (PyData.eqv d e)) := fun M H v1 v2 dm h1 h2 Q q =>
  ⟨d, e, Dp.up (mask_same _ _) _ h1, Dp.up (mask_same _ _) _ h2, hd, he, q _ H (Same.refl H) (.bl _)⟩
theorem rv_neD {d e : PyData} (hd : SeqAt.shaped d = true) (he : SeqAt.shaped e = true) : RvD K (rNeD K) d e (.bool (!PyData.eqv d e)) := fun M H v1 v2 dm h1 h2 Q q =>
  ⟨d, e, Dp.up (mask_same _ _) _ h1, Dp.up (mask_same _ _) _ h2, hd, he, q _ H (Same.refl H) (.bl _)⟩
/-! ### texts -/
/-- a text of signs -/
abbrev S (cs : List Nat) : Str := ⟨cs.toArray⟩
theorem S_inj {a b : List Nat} : S a = S b ↔ a = b := by
  constructor
  · intro h
    have h2 : a.toArray = b.toArray := congrArg Str.cps h
    simpa using congrArg Array.toList h2
  · intro h; rw [h]
theorem S_length (a : List Nat) : (S a).length = a.length := by show a.toArray.size = a.length; simp
theorem S_size (a : List Nat) : (S a).cps.size = a.length := by simp
theorem S_toList (a : List Nat) : (S a).cps.toList = a := by simp
theorem S_getD (a : List Nat) (i : Nat) : (S a).cps.getD i 0 = a.getD i 0 := by
  show a.toArray.getD i 0 = a.getD i 0
  rw [Array.getD_eq_getD_getElem?, List.getD_eq_getElem?_getD]
  simp
theorem S_append (a b : List Nat) : S a ++ S b = S (a ++ b) := TL.ext_tl (by rw [TL.tl_append])
theorem of_S (x : Str) : S (TL.tl x) = x := TL.mk_tl x
theorem rv_eqC {a b : List Nat} : RvD K rEq (.str (S a)) (.str (S b)) (.bool (decide (a = b))) := by
  have h := rv_eqS (K := K) (i := S a) (j := S b)
  have e : decide (S a = S b) = decide (a = b) := by
    by_cases c : a = b
    · rw [decide_eq_true c, decide_eq_true (S_inj.mpr c)]
    · rw [decide_eq_false c, decide_eq_false (fun z => c (S_inj.mp z))]
  rw [e] at h; exact h
theorem rv_neC {a b : List Nat} : RvD K rNe (.str (S a)) (.str (S b)) (.bool (!decide (a = b))) := by
  have h := rv_neS (K := K) (i := S a) (j := S b)
  have e : decide (S a = S b) = decide (a = b) := by
    by_cases c : a = b
    · rw [decide_eq_true c, decide_eq_true (S_inj.mpr c)]
    · rw [decide_eq_false c, decide_eq_false (fun z => c (S_inj.mp z))]
  rw [e] at h; exact h
theorem rv_addS {a b : List Nat} (h : a.length + b.length ≤ sizeLine) : RvD K (fun x y H Q => ∃ i j, x = .str i ∧ y = .str j ∧ i.length + j.length ≤ sizeLine ∧ Q (.str (i ++ j)) H) (.str (S a)) (.str (S b)) (.str (S (a ++ b))) := fun M H v1 v2 dm h1 h2 Q q => by
  cases h1; cases h2
  refine ⟨S a, S b, rfl, rfl, by rw [S_length, S_length]; exact h, ?_⟩
  rw [S_append]
  exact q _ H (Same.refl H) (.str _)
theorem rv_inSign {c : Nat} {z : Str} : RvD K (fun x y H Q => ∃ (c : Nat) (z : Str), x = .str ⟨#[c]⟩ ∧ y = .str z ∧ Q (.bl (decide (c ∈ z.cps.toList))) H) (.str (S [c])) (.str z) (.bool (decide (c ∈ z.cps.toList))) := fun M H v1 v2 dm h1 h2 Q q => by
  cases h1; cases h2
  exact ⟨c, z, rfl, rfl, q _ H (Same.refl H) (.bl _)⟩
theorem rv_ixS {a : List Nat} {i : Int} {c : Nat} (hz : a.length ≤ sizeLine) (h : atI a i = some c) : RvD K rIxS (.str (S a)) (.int i) (.str (S [c])) := fun M H v1 v2 dm h1 h2 Q q => by
  cases h1; cases h2
  exact ⟨S a, i, c, rfl, rfl, by rw [S_length]; exact hz, by rw [S_toList]; exact h, q _ H (Same.refl H) (.str _)⟩
/-! ### items -/
theorem atI_of {α β : Type} {xs : List α} {ys : List β} {i : Int} {v : β} (hl : xs.length = ys.length) (h : atI ys i = some v) : ∃ j, ixN xs.length i = some j ∧ ys[j]? = some v := by
  unfold atI at h
  cases e : ixN ys.length i with
  | none => rw [e] at h; cases h
  | some j => rw [e] at h; exact ⟨j, by rw [hl]; exact e, h⟩
theorem rv_ixL {ds : List PyData} {i : Int} {d : PyData} (h : atI ds i = some d) : RvD K (rIxL K) (.list ds) (.int i) d := fun M H v1 v2 dm h1 h2 Q q => by
  cases h2
  cases h1 with
  | lst a b =>
    obtain ⟨j, hj, hd⟩ := atI_of b.len h
    obtain ⟨v, hv, dv⟩ := b.get hd
    exact ⟨_, _, i, v, rfl, rfl, (mask_same _ _).seq a, by unfold atI; rw [hj]; exact hv, q v H (Same.refl H) dv⟩
theorem rv_ixT {ds : List PyData} {i : Int} {d : PyData} (h : atI ds i = some d) : RvD K (rIxT K) (.tuple ds) (.int i) d := fun M H v1 v2 dm h1 h2 Q q => by
  cases h2
  cases h1 with
  | tup a b =>
    obtain ⟨j, hj, hd⟩ := atI_of b.len h
    obtain ⟨v, hv, dv⟩ := b.get hd
    exact ⟨_, _, i, v, rfl, rfl, SqT.up (mask_same _ _) a, by unfold atI; rw [hj]; exact hv, q v H (Same.refl H) dv⟩
theorem at_nat {α : Type} {xs : List α} {i : Int} {j : Nat} {v : α} (e : i = (j : Int)) (h : xs[j]? = some v) : atI xs i = some v := by
  rw [e]; exact atI_nat h
theorem at_neg {α : Type} {xs : List α} {v : α} (h : xs.getLast? = some v) : atI xs (-1) = some v := by
  have hne : xs ≠ [] := by
    intro z
    subst z
    cases h
  have e : xs = xs.dropLast ++ [xs.getLast hne] := (List.dropLast_concat_getLast hne).symm
  have h2 : xs.getLast hne = v := by
    rw [List.getLast?_eq_some_getLast hne] at h
    exact Option.some.inj h
  rw [e, h2]
  exact atI_last _ _
/-! ### membership in written tuples, lists of scalars -/
def eqD : PyData → PyData → Bool
  | .none, .none => true
  | .bool a, .bool b => a == b
  | .bool a, .int b => (if a then 1 else 0) == b
  | .int a, .bool b => a == (if b then 1 else 0)
  | .int a, .int b => a == b
  | .str a, .str b => a == b
  | _, _ => false
theorem flat_of {H : Hp} {v : V} {d : PyData} (h : Dp K H v d) (hs : scalD d = true) : flatV v = true := by
  cases h <;> first | rfl | cases hs
theorem flat_all {H : Hp} : ∀ {ds : List PyData} {vs : List V}, DpAll K H vs ds → ds.all scalD = true → vs.all flatV = true
  | [], _, h, _ => by cases h; rfl
  | d :: ds, _, h, hs => by
    cases h with
    | cons a b =>
      rw [List.all_cons, Bool.and_eq_true] at hs
      rw [List.all_cons, flat_of a hs.1, flat_all b hs.2]; rfl
theorem eqV_D {H : Hp} {v w : V} {d e : PyData} (h : Dp K H v d) (h' : Dp K H w e) (hd : scalD d = true) (he : scalD e = true) : eqV v w = eqD d e := by
  cases h <;> cases h' <;> first | rfl | cases hd | cases he
theorem inV_D {H : Hp} {v : V} {d : PyData} (h : Dp K H v d) (hd : scalD d = true) : ∀ {ds : List PyData} {vs : List V}, DpAll K H vs ds → ds.all scalD = true → inV v vs = ds.any (fun e => eqD e d)
  | [], _, h', _ => by cases h'; rfl
  | e :: ds, _, h', hs => by
    cases h' with
    | cons a b =>
      rw [List.all_cons, Bool.and_eq_true] at hs
      have ih := inV_D h hd b hs.2
      unfold inV at ih ⊢
      rw [List.any_cons, List.any_cons, ih, eqV_D a h hs.1 hd]
theorem rv_inT {d : PyData} {ds : List PyData} (hd : scalD d = true) (hs : ds.all scalD = true) : RvD K (rIn K false) d (.tuple ds) (.bool (ds.any fun e => eqD e d)) := fun M H v1 v2 dm h1 h2 Q q => by
  cases h2 with
  | tup a b =>
    refine ⟨_, _, rfl, .inr (SqT.up (mask_same _ _) a), flat_of h1 hd, flat_all b hs, ?_⟩
    rw [if_neg Bool.false_ne_true, inV_D h1 hd b hs]
    exact q _ H (Same.refl H) (.bl _)
theorem rv_inL {d : PyData} {ds : List PyData} (hd : scalD d = true) (hs : ds.all scalD = true) : RvD K (rIn K false) d (.list ds) (.bool (ds.any fun e => eqD e d)) := fun M H v1 v2 dm h1 h2 Q q => by
  cases h2 with
  | lst a b =>
    refine ⟨_, _, rfl, .inl ((mask_same _ _).seq a), flat_of h1 hd, flat_all b hs, ?_⟩
    rw [if_neg Bool.false_ne_true, inV_D h1 hd b hs]
    exact q _ H (Same.refl H) (.bl _)
theorem rv_notInT {d : PyData} {ds : List PyData} (hd : scalD d = true) (hs : ds.all scalD = true) : RvD K (rIn K true) d (.tuple ds) (.bool (!ds.any fun e => eqD e d)) := fun M H v1 v2 dm h1 h2 Q q => by
  cases h2 with
  | tup a b =>
    refine ⟨_, _, rfl, .inr (SqT.up (mask_same _ _) a), flat_of h1 hd, flat_all b hs, ?_⟩
    rw [if_pos rfl, inV_D h1 hd b hs]
    exact q _ H (Same.refl H) (.bl _)
/-! ### lists and tuples put together -/
theorem rv_catT {ds es : List PyData} (h0 : ds ≠ []) (h1 : es ≠ []) (hz : ds.length + es.length ≤ sizeLine) : RvD K (rCatT K) (.tuple ds) (.tuple es) (.tuple (ds ++ es)) := fun M H v1 v2 dm a b Q q => by
  cases a with
  | tup a1 a2 =>
    cases b with
    | tup b1 b2 =>
      refine ⟨_, _, _, _, rfl, rfl, SqT.up (mask_same _ _) a1, SqT.up (mask_same _ _) b1, ?_, by rw [a2.len, b2.len]; exact hz, ?_⟩
      · intro z; rw [z] at a2; cases a2; exact h0 rfl
      · first
          | exact ⟨fun z => absurd (by rw [z] at b2; cases b2; rfl) h1, fun _ p hp => q _ _ (Same.new hp) (new_tup dm hp (a2.app b2))⟩
          | exact fun p hp => q _ _ (Same.new hp) (new_tup dm hp (a2.app b2))
end
end JD

/-! ## JDCalls -/
set_option Elab.async false
set_option linter.all false
set_option maxRecDepth 100000
set_option maxHeartbeats 2000000
/-! JD: built-in functions -/
namespace JD
open PySem PySem.Spec PyProof.Rows L2

section
variable {K : PySem.W.Frag}
theorem all1 {H : Hp} {vs : List V} {d : PyData} (h : DpAll K H vs [d]) : ∃ v, vs = [v] ∧ Dp K H v d := by
  cases h with
  | cons a b => cases b; exact ⟨_, rfl, a⟩
theorem all2 {H : Hp} {vs : List V} {d e : PyData} (h : DpAll K H vs [d, e]) : ∃ v w, vs = [v, w] ∧ Dp K H v d ∧ Dp K H w e := by
  cases h with
  | cons a b =>
    obtain ⟨w, rfl, hw⟩ := all1 b
    exact ⟨_, w, rfl, a, hw⟩
theorem all3 {H : Hp} {vs : List V} {d e f : PyData} (h : DpAll K H vs [d, e, f]) : ∃ v w u, vs = [v, w, u] ∧ Dp K H v d ∧ Dp K H w e ∧ Dp K H u f := by
  cases h with
  | cons a b =>
    obtain ⟨w, u, rfl, hw, hu⟩ := all2 b
    exact ⟨_, w, u, rfl, a, hw, hu⟩
/-! ### len -/
theorem rc_lenL {ds : List PyData} : RcD K (fun xs H Q => ∃ p ys, xs = [.ref p] ∧ (SqL K H p ys ∨ SqT K H p ys) ∧ Q (.int ys.length) H) [.list ds] (.int ds.length) := fun M H vs dm h Q q => by
  obtain ⟨v, rfl, hv⟩ := all1 h
  cases hv with
  | lst a b => exact ⟨_, _, rfl, .inl ((mask_same _ _).seq a), q _ H (Same.refl H) (by rw [b.len]; exact .int _)⟩
theorem rc_lenT {ds : List PyData} : RcD K (fun xs H Q => ∃ p ys, xs = [.ref p] ∧ (SqL K H p ys ∨ SqT K H p ys) ∧ Q (.int ys.length) H) [.tuple ds] (.int ds.length) := fun M H vs dm h Q q => by
  obtain ⟨v, rfl, hv⟩ := all1 h
  cases hv with
  | tup a b => exact ⟨_, _, rfl, .inr (SqT.up (mask_same _ _) a), q _ H (Same.refl H) (by rw [b.len]; exact .int _)⟩
theorem rc_lenS {a : List Nat} (hz : a.length ≤ sizeLine) : RcD K (fun xs H Q => ∃ z, xs = [.str z] ∧ z.length ≤ sizeLine ∧ Q (.int z.length) H) [.str (S a)] (.int a.length) := fun M H vs dm h Q q => by
  obtain ⟨v, rfl, hv⟩ := all1 h
  cases hv
  exact ⟨S a, rfl, by rw [S_length]; exact hz, q _ H (Same.refl H) (by rw [S_length]; exact .int _)⟩
/-! ### numbers -/
def rInt1 : List V → Hp → VK → Prop := fun xs H Q => (∃ i, xs = [.int i] ∧ Q (.int i) H) ∨ ∃ k, xs = [.bl k] ∧ Q (.int (if k then 1 else 0)) H
theorem rc_int {i : Int} : RcD K rInt1 [.int i] (.int i) := fun M H vs dm h Q q => by
  obtain ⟨v, rfl, hv⟩ := all1 h
  cases hv
  exact .inl ⟨i, rfl, q _ H (Same.refl H) (.int _)⟩
theorem rc_intB {b : Bool} : RcD K rInt1 [.bool b] (.int (if b then 1 else 0)) := fun M H vs dm h Q q => by
  obtain ⟨v, rfl, hv⟩ := all1 h
  cases hv
  exact .inr ⟨b, rfl, q _ H (Same.refl H) (.int _)⟩
theorem rc_abs {i : Int} : RcD K (fun xs H Q => ∃ i, xs = [.int i] ∧ Q (.int (if i < 0 then -i else i)) H) [.int i] (.int (if i < 0 then -i else i)) := fun M H vs dm h Q q => by
  obtain ⟨v, rfl, hv⟩ := all1 h
  cases hv
  exact ⟨i, rfl, q _ H (Same.refl H) (.int _)⟩
theorem rc_max2 {i j : Int} : RcD K (fun xs H Q => ∃ i j, xs = [.int i, .int j] ∧ Q (.int (if j > i then j else i)) H) [.int i, .int j] (.int (if j > i then j else i)) := fun M H vs dm h Q q => by
  obtain ⟨v, w, rfl, h1, h2⟩ := all2 h
  cases h1; cases h2
  exact ⟨i, j, rfl, q _ H (Same.refl H) (.int _)⟩
theorem rc_min2 {i j : Int} : RcD K (fun xs H Q => ∃ i j, xs = [.int i, .int j] ∧ Q (.int (if j < i then j else i)) H) [.int i, .int j] (.int (if j < i then j else i)) := fun M H vs dm h Q q => by
  obtain ⟨v, w, rfl, h1, h2⟩ := all2 h
  cases h1; cases h2
  exact ⟨i, j, rfl, q _ H (Same.refl H) (.int _)⟩
theorem min3_int (i j k : Int) : nuMin3 (.int i) (.int j) (.int k) = some (.int (min (min i j) k)) := by
  show (nuMin2 (.int i) (.int j)).bind (fun m => nuMin2 m (.int k)) = _
  have e : ∀ a b : Int, nuMin2 (.int a) (.int b) = some (.int (min a b)) := fun a b => by
    have h : nuMin2 (.int a) (.int b) = some (if decide (b < a) = true then .int b else .int a) := rfl
    rw [h]
    by_cases c : b < a
    · rw [if_pos (decide_eq_true c), Int.min_eq_right (Int.le_of_lt c)]
    · rw [if_neg (by rw [decide_eq_false c]; exact Bool.false_ne_true), Int.min_eq_left (by omega)]
  rw [e]
  exact e _ _
theorem rc_min3 {i j k : Int} : RcD K (rNuC3 nuMin3) [.int i, .int j, .int k] (.int (min (min i j) k)) := fun M H vs dm h Q q => by
  obtain ⟨v, w, u, rfl, h1, h2, h3⟩ := all3 h
  cases h1; cases h2; cases h3
  exact ⟨_, _, _, _, rfl, min3_int i j k, q _ H (Same.refl H) (.int _)⟩
theorem rc_sum {ns : List Int} : RcD K (rSum K) [.list (ns.map .int)] (.int ns.sum) := fun M H vs dm h Q q => by
  obtain ⟨v, rfl, hv⟩ := all1 h
  cases hv with
  | lst a b => exact ⟨_, ns, rfl, by rw [b.ints] at a; exact (mask_same _ _).seq a, q _ H (Same.refl H) (.int _)⟩
theorem rc_all {bs : List Bool} : RcD K (rAll K) [.list (bs.map .bool)] (.bool (bs.all id)) := fun M H vs dm h Q q => by
  obtain ⟨v, rfl, hv⟩ := all1 h
  cases hv with
  | lst a b => exact ⟨_, bs, rfl, by rw [b.bls] at a; exact (mask_same _ _).seq a, q _ H (Same.refl H) (.bl _)⟩
theorem rc_any {bs : List Bool} : RcD K (rAny K) [.list (bs.map .bool)] (.bool (bs.any id)) := fun M H vs dm h Q q => by
  obtain ⟨v, rfl, hv⟩ := all1 h
  cases hv with
  | lst a b => exact ⟨_, bs, rfl, by rw [b.bls] at a; exact (mask_same _ _).seq a, q _ H (Same.refl H) (.bl _)⟩
/-- sorted of ints: THE ascending arrangement ns' -/
theorem rc_sorted {ns ns' : List Int} (hp : ns'.Perm ns) (hs : ns'.Pairwise (· ≤ ·)) : RcL K (rSortedI K) [.list (ns.map .int)] (ns'.map .int) := fun M H vs dm h Q q => by
  obtain ⟨v, rfl, hv⟩ := all1 h
  cases hv with
  | lst a b =>
    refine ⟨_, ns, rfl, by rw [b.ints] at a; exact (mask_same _ _).seq a, fun ms p h1 h2 hn => ?_⟩
    have e : ms = ns' := List.Perm.eq_of_pairwise (le := fun a b => a ≤ b) (fun a b _ _ x y => Int.le_antisymm x y) h2 hs (h1.trans hp.symm)
    rw [e]
    exact q p _ hn (DpAll.ofInts _)
/-- list(a list), list(a tuple) -/
def rListOf (K : PySem.W.Frag) : List V → Hp → VK → Prop := fun xs H Q => ∃ p ys, xs = [.ref p] ∧ (SqL K H p ys ∨ SqT K H p ys) ∧ ∀ l, H l = none → Q (.ref l) (upd H l (.lst ys))
theorem rc_listL {ds : List PyData} : RcL K (rListOf K) [.list ds] ds := fun M H vs dm h Q q => by
  obtain ⟨v, rfl, hv⟩ := all1 h
  cases hv with
  | lst a b => exact ⟨_, _, rfl, .inl ((mask_same _ _).seq a), fun l hl => q l _ hl (new_items hl b)⟩
theorem rc_listT {ds : List PyData} : RcL K (rListOf K) [.tuple ds] ds := fun M H vs dm h Q q => by
  obtain ⟨v, rfl, hv⟩ := all1 h
  cases hv with
  | tup a b => exact ⟨_, _, rfl, .inr (SqT.up (mask_same _ _) a), fun l hl => q l _ hl (new_items hl b)⟩
def rTupOf (K : PySem.W.Frag) : List V → Hp → VK → Prop := fun xs H Q => ∃ p ys, xs = [.ref p] ∧ ((SqL K H p ys ∧ ∀ l, H l = none → Q (.ref l) (upd H l (.tup ys))) ∨ (SqT K H p ys ∧ Q (.ref p) H))
theorem rc_tupL {ds : List PyData} : RcD K (rTupOf K) [.list ds] (.tuple ds) := fun M H vs dm h Q q => by
  obtain ⟨v, rfl, hv⟩ := all1 h
  cases hv with
  | lst a b => exact ⟨_, _, rfl, .inl ⟨(mask_same _ _).seq a, fun l hl => q _ _ (Same.new hl) (new_tup dm hl b)⟩⟩
theorem rc_tupT {ds : List PyData} : RcD K (rTupOf K) [.tuple ds] (.tuple ds) := fun M H vs dm h Q q => by
  obtain ⟨v, rfl, hv⟩ := all1 h
  cases hv with
  | tup a b => exact ⟨_, _, rfl, .inr ⟨SqT.up (mask_same _ _) a, q _ H (Same.refl H) (.tup a b)⟩⟩
/-! ### repr -/
theorem rc_reprI {i : Int} (h : i.natAbs.log2 < 1920) : RcD K (fun xs H Q => ∃ i, xs = [.int i] ∧ i.natAbs.log2 < 1920 ∧ Q (.str (toString i)) H) [.int i] (.str (toString i)) := fun M H vs dm hh Q q => by
  obtain ⟨v, rfl, hv⟩ := all1 hh
  cases hv
  exact ⟨i, rfl, h, q _ H (Same.refl H) (.str _)⟩
/-- repr of any data -/
def rRepr (K : PySem.W.Frag) : List V → Hp → VK → Prop := fun xs H Q => ∃ x d, xs = [x] ∧ Dp K H x d ∧ d.showable = true ∧ d.hasDict = false ∧ d.depth ≤ 32 ∧ d.shown.length ≤ sizeLine ∧ Q (.str d.shown) H
theorem call_repr {X : Cx} {k : Nat} (hg : X.A.guards = some []) (hr : Room k X.A) : CallR X (.builtin "repr") (rRepr X.K) := by
  intro pins s σ H xs us Q I r h
  obtain ⟨x, d, rfl, hd, sh, nd, dp, sz, q⟩ := h
  obtain ⟨u, rfl, ru⟩ := vals1 r
  have un := hr.units
  cases hd with
  | non =>
    cases (show u = Value.none from ru)
    exact PySem.P.repr_of_none ⟨.str _, H, I.tok _, ⟨_, rfl⟩, q⟩
  | bl b =>
    cases (show u = Value.bool b from ru)
    refine PySem.P.repr_of_bool ⟨.str _, H, I.tok _, ⟨_, rfl⟩, ?_⟩
    cases b <;> exact q
  | int i =>
    obtain ⟨t, rfl⟩ := (show ∃ t, u = Value.int i t from ru)
    exact PySem.P.repr_of_int (of_decide_eq_true sh) ⟨.str _, H, I.tok _, ⟨_, rfl⟩, q⟩
  | str z =>
    obtain ⟨t, rfl⟩ := (show ∃ t, u = Value.str z t from ru)
    exact PySem.P.repr_of_str ⟨.str _, H, I.tok _, ⟨_, rfl⟩, q⟩ sz
  | @lst a xs ds hs ha =>
    cases (show u = Value.ref a from ru)
    obtain ⟨as, rd⟩ := Dp.reads I (.list ds) (.ref a) _ (.lst hs ha) rfl
    exact repr_of_reads' rd sh (PyData.noDict_hsm nd) hg (by omega) (fun _ _ e => e) (fun h' u tk hk => ⟨.str _, H, I.kept hk, ⟨_, rfl⟩, q⟩) sz
  | @tup a xs ds hs ha =>
    cases (show u = Value.ref a from ru)
    obtain ⟨as, rd⟩ := Dp.reads I (.tuple ds) (.ref a) _ (.tup hs ha) rfl
    exact repr_of_reads' rd sh (PyData.noDict_hsm nd) hg (by omega) (fun _ _ e => e) (fun h' u tk hk => ⟨.str _, H, I.kept hk, ⟨_, rfl⟩, q⟩) sz
theorem rc_repr {d : PyData} (sh : d.showable = true) (nd : d.hasDict = false) (dp : d.depth ≤ 32) (sz : d.shown.length ≤ sizeLine) : RcD K (rRepr K) [d] (.str d.shown) := fun M H vs dm hh Q q => by
  obtain ⟨v, rfl, hv⟩ := all1 hh
  exact ⟨v, d, rfl, Dp.up (mask_same _ _) _ hv, sh, nd, dp, sz, q _ H (Same.refl H) (.str _)⟩
end

section
variable {G : Glb} {k : Nat} {N : List Str} {sc : Scope} {B : Bool} {X : Cx} {g : Prop} {ρ : List Sl} {π π1 π2 : Pot} {C : Cont} {e e1 : Expr} {te tb : TE} {d : PyData} {ds es : List PyData} {pos : Pos}
/-- a rule told over X.K, over the def's own -/
theorem toK {P : PySem.W.Frag → Prop} (c : Cz G k N sc B X) (h : P X.K) : P G.K := by rw [c.K] at h; exact h
theorem c_lenL (c : Cz G k N sc B X) : CallR X (.builtin "len") (fun xs H Q => ∃ p ys, xs = [.ref p] ∧ (SqL G.K H p ys ∨ SqT G.K H p ys) ∧ Q (.int ys.length) H) := toK (P := fun K => CallR X (.builtin "len") (fun xs H Q => ∃ p ys, xs = [.ref p] ∧ (SqL K H p ys ∨ SqT K H p ys) ∧ Q (.int ys.length) H)) c call_len_seq
/-! ### isinstance -/
def tyName : PyData → String
  | .none => "NoneType"
  | .bool _ => "bool"
  | .int _ => "int"
  | .str _ => "str"
  | .list _ => "list"
  | .tuple _ => "tuple"
  | .dict _ => "dict"
def isI : PyData → Bool
  | .int _ => true
  | .bool _ => true
  | _ => false
def isB : PyData → Bool
  | .bool _ => true
  | _ => false
def isS : PyData → Bool
  | .str _ => true
  | _ => false
def isT : PyData → Bool
  | .tuple _ => true
  | _ => false
def isL : PyData → Bool
  | .list _ => true
  | _ => false
theorem kit_int (d : PyData) : kitB (tyName d) "int" = some (isI d) := by
  cases d
  · exact (by decide +kernel : kitB "NoneType" "int" = some false)
  · exact (by decide +kernel : kitB "bool" "int" = some true)
  · exact (by decide +kernel : kitB "int" "int" = some true)
  · exact (by decide +kernel : kitB "str" "int" = some false)
  · exact (by decide +kernel : kitB "list" "int" = some false)
  · exact (by decide +kernel : kitB "tuple" "int" = some false)
  · exact (by decide +kernel : kitB "dict" "int" = some false)
theorem kit_bool (d : PyData) : kitB (tyName d) "bool" = some (isB d) := by
  cases d
  · exact (by decide +kernel : kitB "NoneType" "bool" = some false)
  · exact (by decide +kernel : kitB "bool" "bool" = some true)
  · exact (by decide +kernel : kitB "int" "bool" = some false)
  · exact (by decide +kernel : kitB "str" "bool" = some false)
  · exact (by decide +kernel : kitB "list" "bool" = some false)
  · exact (by decide +kernel : kitB "tuple" "bool" = some false)
  · exact (by decide +kernel : kitB "dict" "bool" = some false)
theorem kit_str (d : PyData) : kitB (tyName d) "str" = some (isS d) := by
  cases d
  · exact (by decide +kernel : kitB "NoneType" "str" = some false)
  · exact (by decide +kernel : kitB "bool" "str" = some false)
  · exact (by decide +kernel : kitB "int" "str" = some false)
  · exact (by decide +kernel : kitB "str" "str" = some true)
  · exact (by decide +kernel : kitB "list" "str" = some false)
  · exact (by decide +kernel : kitB "tuple" "str" = some false)
  · exact (by decide +kernel : kitB "dict" "str" = some false)
theorem kit_tuple (d : PyData) : kitB (tyName d) "tuple" = some (isT d) := by
  cases d
  · exact (by decide +kernel : kitB "NoneType" "tuple" = some false)
  · exact (by decide +kernel : kitB "bool" "tuple" = some false)
  · exact (by decide +kernel : kitB "int" "tuple" = some false)
  · exact (by decide +kernel : kitB "str" "tuple" = some false)
  · exact (by decide +kernel : kitB "list" "tuple" = some false)
  · exact (by decide +kernel : kitB "tuple" "tuple" = some true)
  · exact (by decide +kernel : kitB "dict" "tuple" = some false)
theorem tyX_of {K : PySem.W.Frag} {H : Hp} {v : V} {d : PyData} (h : Dp K H v d) : TyX K H v (.type (tyName d)) := by
  cases h with
  | non => exact .base .non
  | bl b => exact .base (.bl b)
  | int i => exact .base (.int i)
  | str x => exact .base (.str x)
  | lst a b =>
    rcases a with (a | ⟨o, a⟩) | ⟨o, its, n, a, c, _⟩
    · exact .base (.lst a)
    · exact .base (.frz a)
    · exact .kList a c
  | tup a b =>
    rcases a with (a | ⟨o, a⟩) | ⟨o, its, n, a, c, _⟩
    · exact .base (.tup a)
    · exact .fTuple a
    · exact .kTuple a c
theorem je_isinst (c : Cz G k N sc B X) {p p2 : Pos} {T : Str} {Tn : String} {b : Bool} (h : JE G.K g X e te ρ π d π1) (hm : G.mg "isinstance" = none) (hT : G.mg T = none) (hb : g → kitB (tyName d) Tn = some b) (hv : bootBuiltins T = some (.type Tn) := by decide +kernel)
    (hg : sc.names.lookup ("isinstance" : Str) = some .globalImplicit := by rfl) (hgT : sc.names.lookup T = some .globalImplicit := by rfl) (hn : T ≠ "__name__" := by decide) (hd : (T == ("__debug__" : Str)) = false := by decide)
    (h1 : starEach (e :: [.Name T p2]) X.env = (false, eval e X.env) :: starEach [.Name T p2] X.env := by rfl) (h2 : starEach (.Name T p2 :: []) X.env = (false, eval (.Name T p2) X.env) :: starEach [] X.env := by rfl) (hpl : (backTo pos (starEach [.Name T p2] X.env)).any (·.1) = false := by rfl) :
    JE G.K g X (.Call (.Name "isinstance" p) [e, .Name T p2] [] pos) (tCB (rIsi G.K) (tCons te (tCons (tC (.ty Tn)) tNil))) ρ π (.bool b) π1 := by
  have hc : CallR X (.builtin "isinstance") (rIsi G.K) := toK (P := fun K => CallR X (.builtin "isinstance") (rIsi K)) c call_isi
  refine ⟨pe_callB hc (c.gl hg) (c.nn hm) (by decide +kernel) (pa_cons h.pe (pa_cons (pe_bltn (c.gl hgT) (c.nn hT) hv (show RelV (.ty Tn) (.type Tn) from rfl) hn hd) pa_nil h2) h1) (by decide) (by decide) h1 hpl, fun q w H σ R Q qq => ?_⟩
  refine h.ev q w H σ R _ fun v H1 e1 p1 q1 => ?_
  exact ⟨v, .ty Tn, .type (tyName d), .type Tn, b, rfl, .ty _, tyX_of (Dp.up (mask_same _ _) _ q1), kit_ty (hb q), qq _ H1 e1 p1 (.bl b)⟩
/-! ### list(range(..)) -/
def rgD (a b : Int) : List PyData := (List.range (b - a).toNat).map fun i => .int (a + (i : Nat))
theorem rgD_V {K : PySem.W.Frag} {H : Hp} (a b : Int) : DpAll K H (rgV a b) (rgD a b) := by
  unfold rgV rgD
  generalize (b - a).toNat = n
  have h : ∀ (l : List Nat), DpAll K H (l.map fun (i : Nat) => V.int (a + i)) (l.map fun (i : Nat) => .int (a + i)) := fun l => by
    induction l with
    | nil => exact .nil
    | cons x r ih => exact .cons (.int _) ih
  exact h _
theorem jl_listRg (c : Cz G k N sc B X) {p p1 pos1 : Pos} {n : Int} (h : JE G.K g X e te ρ π (.int n) π1) (hz : g → RgOk 0 n) (hm : G.mg "range" = none) (hl : G.mg "list" = none) (hg : sc.names.lookup ("range" : Str) = some .globalImplicit := by rfl) (hgl : sc.names.lookup ("list" : Str) = some .globalImplicit := by rfl)
    (na : starEach [e] X.env = (false, eval e X.env) :: starEach [] X.env := by rfl) (nb : starEach [.Call (.Name "range" p1) [e] [] pos1] X.env = (false, eval (.Call (.Name "range" p1) [e] [] pos1) X.env) :: starEach [] X.env := by rfl) :
    JL G.K g X (.Call (.Name "list" p) [.Call (.Name "range" p1) [e] [] pos1] [] pos) (tLstRg (tRg1 te)) ρ π (rgD 0 n) π1 :=
  ⟨pe_listRg c.calm (c.gl hgl) (c.nn hl) (prg_1 (c.gl hg) (c.nn hm) h.pe na) nb, fun q w H σ R Q qq => by
    refine h.ev q w H σ R _ fun v H1 e1 p1 q1 => ?_
    cases q1
    exact ⟨n, rfl, hz q, fun l hn => qq l _ _ (e1.trans (.new hn)) (p1.same (Same.new hn)) (e1.fresh p1 hn) upd_same (rgD_V 0 n)⟩⟩
/-! ### own lists: statements -/
theorem js_append (c : Cz G k N sc B X) (i : Nat) {x : Str} {p apos cpos : Pos} (he : JE G.K g X e te ρ π d π1) (h : ρ[i]? = some (.own ds) := by rfl) (hz : g → ds.length < sizeLine) (kk : g → C.nx (ρ.set i (.own (ds ++ [d]))) π1 := by exact fun _ => ⟨rfl, rfl⟩) (hN : N[i]? = some x := by rfl) (hv : Vis sc x := by first | exact Or.inl rfl | exact Or.inr (Or.inl rfl) | exact Or.inr (Or.inr rfl))
    (hd : (x == ("__debug__" : Str)) = false := by decide) (hcd : (x == ("__classdict__" : Str)) = false := by decide) (hbase : attributeBase (.Name x p) "append" X.env (eval (.Name x p) X.env) = eval (.Name x p) X.env := by rfl)
    (hfew : ((backTo cpos (starEach (e :: []) X.env)).all (fun x => !x.1) && (backToKw cpos (keywordEach [] X.env)).all (fun x => x.1.isSome) && decide ((e :: []).length + ([] : List Keyword).length + (if ([] : List Keyword).isEmpty then 0 else 1) < 30)) = true := by rfl)
    (hline : (apos.endLine == cpos.line) = true := by rfl) (hs : starEach (e :: []) X.env = (false, eval e X.env) :: starEach [] X.env := by rfl) (hplain : (backTo cpos (starEach [] X.env)).any (·.1) = false := by rfl) (hsw : swapsWith (.Call (.Attribute (.Name x p) "append" apos) [e] [] cpos) none pos.line X.env = pure false := by rfl) :
    JS G.K g X (.Expr (.Call (.Attribute (.Name x p) "append" apos) [e] [] cpos) pos) (tDrop (tBM G.K "list" rAppend (tVar i) (tCons te tNil))) ρ π C :=
  ⟨toK (P := fun K => PS X (.Expr (.Call (.Attribute (.Name x p) "append" apos) [e] [] cpos) pos) (tDrop (tBM K "list" rAppend (tVar i) (tCons te tNil)))) c (ps_expr (pe_bm PySem.F.plainAttrs_list PySem.F.slot_list_append PySem.F.type_list_append mt_append (pvG c i hN hv hd hcd) (pa_cons he.pe pa_nil hs) hbase hfew hline hs hplain) hsw), fun q => es_append h (hz q) (he.ev q) (kk q)⟩
end
end JD

/-! ## JDWrap -/
set_option Elab.async false
set_option linter.all false
set_option maxRecDepth 100000
set_option maxHeartbeats 2000000
/-! JD: rules over the def's own context; slices, new lists put together, texts joined -/
namespace JD
open PySem PySem.Spec PyProof.Rows L2

section
variable {K : PySem.W.Frag} {ρ : List Sl} {π π1 π2 : Pot} {ta tb : TE} {d : PyData} {ds es : List PyData}
theorem DpAll.rep {H : Hp} {vs : List V} (h : DpAll K H vs ds) : ∀ n : Nat, DpAll K H (List.replicate n vs).flatten (List.replicate n ds).flatten
  | 0 => .nil
  | n + 1 => by
    rw [List.replicate_succ, List.replicate_succ, List.flatten_cons, List.flatten_cons]
    exact h.app (DpAll.rep h n)
theorem el_rep {n : Int} (ha : EvL K ta ρ π ds π1) (hb : EvD K tb ρ π1 (.int n) π2) (h1 : -(2 ^ 63) ≤ n ∧ n < 2 ^ 63) (hz : ds.length * n.toNat ≤ sizeLine) : EvL K (tOp rRep ta tb) ρ π (List.replicate n.toNat ds).flatten π2 := fun w H σ R Q q =>
  ha w H σ R _ fun p xs H1 e1 p1 hn hp hd => by
    have R1 := R.step e1 p1
    refine hb w H1 σ R1 _ fun v H2 e2 p2 q2 => ?_
    cases q2
    have R2 := R1.step e2 p2
    have hp2 : H2 p = some (.lst xs) := e2 p _ (R.nP hn) hp
    refine ⟨p, n, xs, rfl, rfl, hp2, h1.1, h1.2, by rw [hd.len]; exact hz, fun l hl => ?_⟩
    have hl1 : H1 l = none := e2.fresh p2 hl
    have hl0 : H l = none := e1.fresh p1 hl1
    refine q l _ _ ((e1.trans e2).trans (.new hl)) (p2.same (Same.new hl)) hl0 upd_same ?_
    have up : Same (mask (fun a => w.M ρ a ∨ a = p) H1) (mask (fun a => w.M ρ a ∨ a = l) (upd H2 l (.lst (List.replicate n.toNat xs).flatten))) := fun b o eb => by
      obtain ⟨nb, eb⟩ := mask_some eb
      have nl : b ≠ l := fun z => by rw [z, hl1] at eb; cases eb
      rw [mask_out (fun m => m.elim (fun z => nb (.inl z)) nl), upd_ne nl]
      exact e2 b o (fun z => nb (.inl (R1.potM z))) eb
    exact DpAll.rep (DpAll.up up _ hd) _
theorem el_cat (ha : EvL K ta ρ π ds π1) (hb : EvL K tb ρ π1 es π2) (hz : ds.length + es.length ≤ sizeLine) : EvL K (tOp rCat ta tb) ρ π (ds ++ es) π2 := fun w H σ R Q q =>
  ha w H σ R _ fun p xs H1 e1 p1 hn hp hd => by
    have R1 := R.step e1 p1
    refine hb w H1 σ R1 _ fun p2 ys H2 e2 p2' hn2 hp2 hd2 => ?_
    have hpp : H2 p = some (.lst xs) := e2 p _ (R.nP hn) hp
    refine ⟨p, p2, xs, ys, rfl, rfl, hpp, hp2, by rw [hd.len, hd2.len]; exact hz, fun l hl => ?_⟩
    have hl1 : H1 l = none := e2.fresh p2' hl
    have hl0 : H l = none := e1.fresh p1 hl1
    refine q l _ _ ((e1.trans e2).trans (.new hl)) (p2'.same (Same.new hl)) hl0 upd_same (DpAll.app (DpAll.up ?_ _ hd) (DpAll.up ?_ _ hd2))
    · intro b o eb
      obtain ⟨nb, eb⟩ := mask_some eb
      have nl : b ≠ l := fun z => by rw [z, hl1] at eb; cases eb
      rw [mask_out (fun m => m.elim (fun z => nb (.inl z)) nl), upd_ne nl]
      exact e2 b o (fun z => nb (.inl (R1.potM z))) eb
    · intro b o eb
      obtain ⟨nb, eb⟩ := mask_some eb
      have nl : b ≠ l := fun z => by rw [z, hl] at eb; cases eb
      rw [mask_out (fun m => m.elim (fun z => nb (.inl z)) nl), upd_ne nl]
      exact eb
theorem el_rev (ha : EvD K ta ρ π (.list ds) π1) : EvL K (tRevL K ta) ρ π ds.reverse π1 := fun w H σ R Q q =>
  ha w H σ R _ fun v H1 e1 p1 q1 => by
    cases q1 with
    | lst a b => exact ⟨_, _, rfl, (mask_same _ _).seq a, fun l hl => q l _ _ (e1.trans (.new hl)) (p1.same (Same.new hl)) (e1.fresh p1 hl) upd_same (new_items hl b.rev)⟩
/-- an optional part of a slice -/
def EvO (K : PySem.W.Frag) (to : TO) (ρ : List Sl) (π : Pot) (o : Option Int) (π' : Pot) : Prop := ∀ (w : Wd) (H : Hp) (σ : L2.St), Rel K w ρ π H σ → ∀ Q : Option Int → Hp → Prop, (∀ H', Ext w.P H H' → potAt w.P π' H' → Q o H') → to σ H Q
theorem eo_none : EvO K tNoPart ρ π none π := fun w H σ R Q q => q H (Ext.refl H) R.pot
theorem eo_some {i : Int} (h : EvD K ta ρ π (.int i) π1) : EvO K (tPart ta) ρ π (some i) π1 := fun w H σ R Q q =>
  h w H σ R _ fun v H1 e1 p1 q1 => by
    cases q1
    exact ⟨i, rfl, q H1 e1 p1⟩
/-- the items from lo to hi -/
def cutN {α : Type} (xs : List α) (lo hi : Option Int) : List α := (xs.drop (HT.sIx xs.length 0 lo)).take (HT.sIx xs.length xs.length hi - HT.sIx xs.length 0 lo)
theorem cutS_S (a : List Nat) (lo hi : Option Int) : cutS (S a) lo hi = S (cutN a lo hi) := by
  unfold cutS cutN
  rw [S_toList, S_length]
theorem ev_slS {tl th : TO} {a : List Nat} {lo hi : Option Int} {π3 : Pot} (h : EvD K ta ρ π (.str (S a)) π1) (hl : EvO K tl ρ π1 lo π2) (hh : EvO K th ρ π2 hi π3) (hz : a.length ≤ sizeLine) : EvD K (tSl rSlS ta tl th) ρ π (.str (S (cutN a lo hi))) π3 := fun w H σ R Q q =>
  h w H σ R _ fun v H1 e1 p1 q1 => by
    cases q1
    have R1 := R.step e1 p1
    refine hl w H1 σ R1 _ fun H2 e2 p2 => ?_
    refine hh w H2 σ (R1.step e2 p2) _ fun H3 e3 p3 => ?_
    refine ⟨S a, rfl, by rw [S_length]; exact hz, ?_⟩
    rw [cutS_S]
    exact q _ H3 ((e1.trans e2).trans e3) p3 (.str _)
theorem DpAll.cut {H : Hp} {vs : List V} (h : DpAll K H vs ds) (lo hi : Option Int) : DpAll K H (cutV vs lo hi) (cutN ds lo hi) := by
  unfold cutV cutN
  rw [h.len]
  exact (h.drop _).take _
theorem el_slL {tl th : TO} {lo hi : Option Int} {π3 : Pot} (h : EvD K ta ρ π (.list ds) π1) (hl : EvO K tl ρ π1 lo π2) (hh : EvO K th ρ π2 hi π3) : EvL K (tSl (rSlL K) ta tl th) ρ π (cutN ds lo hi) π3 := fun w H σ R Q q =>
  h w H σ R _ fun v H1 e1 p1 q1 => by
    have R1 := R.step e1 p1
    cases q1 with
    | lst a b =>
      refine hl w H1 σ R1 _ fun H2 e2 p2 => ?_
      have R2 := R1.step e2 p2
      refine hh w H2 σ R2 _ fun H3 e3 p3 => ?_
      have up := (R1.maskUp e2).trans (R2.maskUp e3)
      exact ⟨_, _, rfl, (up.trans (mask_same _ _)).seq a, fun l hl => q l _ _ (((e1.trans e2).trans e3).trans (.new hl)) (p3.same (Same.new hl)) (e1.fresh p1 (e2.fresh p2 (e3.fresh p3 hl))) upd_same (new_items hl (DpAll.cut (DpAll.up up _ b) lo hi))⟩
theorem ev_slT {tl th : TO} {lo hi : Option Int} {π3 : Pot} (h : EvD K ta ρ π (.tuple ds) π1) (hl : EvO K tl ρ π1 lo π2) (hh : EvO K th ρ π2 hi π3) (hs : ¬ (HT.sIx ds.length 0 lo = 0 ∧ HT.sIx ds.length ds.length hi = ds.length)) : EvD K (tSl (rSlT K) ta tl th) ρ π (.tuple (cutN ds lo hi)) π3 := fun w H σ R Q q =>
  h w H σ R _ fun v H1 e1 p1 q1 => by
    have R1 := R.step e1 p1
    cases q1 with
    | tup a b =>
      refine hl w H1 σ R1 _ fun H2 e2 p2 => ?_
      have R2 := R1.step e2 p2
      refine hh w H2 σ R2 _ fun H3 e3 p3 => ?_
      have R3 := R2.step e3 p3
      have up := (R1.maskUp e2).trans (R2.maskUp e3)
      exact ⟨_, _, rfl, SqT.up (up.trans (mask_same _ _)) a, by rw [b.len]; exact hs, fun l hl => q _ _ (((e1.trans e2).trans e3).trans (.new hl)) (p3.same (Same.new hl)) (new_tup (fun a m => R3.domH m) hl (DpAll.cut (DpAll.up up _ b) lo hi))⟩

/-! ### texts -/
/-- text[::-1] -/
def tRevS (te : TE) : TE := fun σ H Q => te σ H fun x H1 => ∃ z : Str, x = .str z ∧ z.length ≤ sizeLine ∧ Q (.str ⟨z.cps.toList.reverse.toArray⟩) H1
theorem pe_revS {X : Cx} {e : Expr} {te : TE} {k : Nat} {p1 p2 p3 pos : Pos} (he : PE X e te) : PE X (.Subscript e (.Slice none none (some (.UnaryOp .USub (.Constant (.int 1) k p1) p2)) p3) pos) (tRevS te) := by
  refine ⟨fun pins s σ H Q I h => ?_⟩
  refine Subscript_ (thn (he.run pins s σ H _ I h) fun v s1 ⟨x, H1, I1, r1, q1⟩ => ?_)
  obtain ⟨z, ex, hz, q⟩ := q1
  subst ex
  obtain ⟨t, rfl⟩ := r1
  have hst : PO X (some (.UnaryOp .USub (.Constant (.int 1) k p1) p2)) (tPart (tUn (rU fun i => .int (-i)) (tC (.int 1)))) := po_some (pe_un un_neg pe_int)
  refine wpAny_Slice (thn (po_none.run pins s1 σ H1 (fun o H2 => o = none ∧ H2 = H1) I1 ⟨rfl, rfl⟩) fun vl s2 ⟨l, H2, I2, pl, el, e2⟩ => ?_)
  subst el e2
  refine thn (po_none.run pins s2 σ H2 (fun o H3 => o = none ∧ H3 = H2) I2 ⟨rfl, rfl⟩) fun vu s3 ⟨u, H3, I3, pu, eu, e3⟩ => ?_
  subst eu e3
  refine thn (hst.run pins s3 σ H3 (fun o H4 => o = some (-1) ∧ H4 = H3) I3 ⟨1, rfl, -1, rfl, rfl, rfl⟩) fun vs s4 ⟨o, H4, I4, ps, eo, e4⟩ => ?_
  subst eo e4
  have I5 : Inv X pins σ H4 { s4 with heap := s4.heap.push { cls := .type "slice", data := .fields #[vl, vu, vs] } } := I4.kept (t' := s4.toks) fun b ob q => Heap.get?_push_of_some _ q
  obtain ⟨l, rfl, e1⟩ := IsPart.raw pl
  obtain ⟨u, rfl, e2⟩ := IsPart.raw pu
  obtain ⟨st, rfl, e3⟩ := IsPart.raw ps
  have el : l = none := by cases l with
    | none => rfl
    | some _ => cases e1
  have eu : u = none := by cases u with
    | none => rfl
    | some _ => cases e2
  obtain ⟨tk, est⟩ : ∃ tk, st = some (-1, tk) := by cases st with
    | none => cases e3
    | some y =>
      obtain ⟨a, b⟩ := y
      have e4 : a = (-1 : Int) := Option.some.inj e3
      subst e4
      exact ⟨b, rfl⟩
  subst el eu est
  show wpAny (model X.prog X.w) X.A (subscriptTail e (.Slice none none (some (.UnaryOp .USub (.Constant (.int 1) k p1) p2)) p3) (.str z t) (.ref s4.heap.objs.size)) (EP X pins σ Q) X.xe _
  refine tail_any (ops := [.str z t, .ref s4.heap.objs.size]) (typeIs_str _ z t) (F.slot_str_getitem.lookup) ?_ (by with_unfolding_all rfl)
  refine wpAny_getItem_str_slice (l := none) (u := none) (st := some (-1, tk)) ⟨_, Heap.get?_push_size _ rfl, rfl, rfl⟩ rfl ?_
  have hp : slicePicked z none none (some (-1, tk)) = (List.range z.cps.size).reverse := by
    have h1 : slicePicked z none none (some (-1, tk)) = sliceRange ((z.cps.size : Int) - 1) (-1) (-1) := rfl
    rw [h1, PySem.W.krv_sliceRange, PySem.W.krv_range]
  have hm : sliceMade z t none none (some (-1, tk)) = .str ⟨z.cps.toList.reverse.toArray⟩ := by
    unfold sliceMade
    rw [hp, List.filterMap_reverse, PySem.W.krv_all]
    rfl
  rw [hm]
  refine ⟨?_, .str _, H4, I5.tok _, ⟨_, rfl⟩, q⟩
  show (z.cps.toList.reverse.toArray).size ≤ sizeLine
  rw [List.size_toArray, List.length_reverse, Array.length_toList]
  exact hz
theorem ev_revS {a : List Nat} (h : EvD K ta ρ π (.str (S a)) π1) (hz : a.length ≤ sizeLine) : EvD K (tRevS ta) ρ π (.str (S a.reverse)) π1 := fun w H σ R Q q =>
  h w H σ R _ fun v H1 e1 p1 q1 => by
    cases q1
    refine ⟨S a, rfl, by rw [S_length]; exact hz, ?_⟩
    rw [S_toList]
    exact q _ H1 e1 p1 (.str _)
end

section
variable {G : Glb} {k : Nat} {N : List Str} {sc : Scope} {B : Bool} {X : Cx} {g : Prop} {ρ : List Sl} {π π1 π2 π3 : Pot} {C : Cont} {e e1 e2 a b : Expr} {te ta tb : TE} {d d1 d2 : PyData} {ds es : List PyData} {pos : Pos}
/-! ### the operators over the def's own context -/
theorem o_catT (c : Cz G k N sc B X) : OpR X (binaryOp .Add) (rCatT G.K) := toK (P := fun K => OpR X (binaryOp .Add) (rCatT K)) c op_catT
theorem o_ixL (c : Cz G k N sc B X) : IxR X (rIxL G.K) := toK (P := fun K => IxR X (rIxL K)) c ix_list
theorem o_ixT (c : Cz G k N sc B X) : IxR X (rIxT G.K) := toK (P := fun K => IxR X (rIxT K)) c ix_tup
theorem o_in (c : Cz G k N sc B X) : OpR X (compareOp .In) (rIn G.K false) := toK (P := fun K => OpR X (compareOp .In) (rIn K false)) c op_in_seq
theorem o_notIn (c : Cz G k N sc B X) : OpR X (compareOp .NotIn) (rIn G.K true) := toK (P := fun K => OpR X (compareOp .NotIn) (rIn K true)) c op_notIn_seq
theorem o_eqD (c : Cz G k N sc B X) : OpR X (compareOp .Eq) (rEqD G.K) := toK (P := fun K => OpR X (compareOp .Eq) (rEqD K)) c (op_eqD c.room.units)
theorem o_neD (c : Cz G k N sc B X) : OpR X (compareOp .NotEq) (rNeD G.K) := toK (P := fun K => OpR X (compareOp .NotEq) (rNeD K)) c (op_neD c.room.units)
theorem o_repr (c : Cz G k N sc B X) : CallR X (.builtin "repr") (rRepr G.K) := toK (P := fun K => CallR X (.builtin "repr") (rRepr K)) c (call_repr c.gd c.room)
theorem o_sum (c : Cz G k N sc B X) : CallR X (.builtin "sum") (rSum G.K) := toK (P := fun K => CallR X (.builtin "sum") (rSum K)) c (cr_sum c.calm)
theorem o_all (c : Cz G k N sc B X) : CallR X (.builtin "all") (rAll G.K) := toK (P := fun K => CallR X (.builtin "all") (rAll K)) c (cr_all c.calm)
theorem o_any (c : Cz G k N sc B X) : CallR X (.builtin "any") (rAny G.K) := toK (P := fun K => CallR X (.builtin "any") (rAny K)) c (cr_any c.calm)
theorem o_listOf (c : Cz G k N sc B X) : CallR X (.type "list") (rListOf G.K) := toK (P := fun K => CallR X (.type "list") (rListOf K)) c call_list_of
theorem o_tupOf (c : Cz G k N sc B X) : CallR X (.type "tuple") (rTupOf G.K) := toK (P := fun K => CallR X (.type "tuple") (rTupOf K)) c call_tuple_of
theorem je_ix {r : R2} (hr : IxR X r) (hv : g → RvD G.K r d1 d2 d) (ha : JE G.K g X a ta ρ π d1 π1) (hb : JE G.K g X b tb ρ π1 d2 π2) (hs : PlainIx b := by exact fun _ _ => rfl) : JE G.K g X (.Subscript a b pos) (tOp r ta tb) ρ π d π2 := ⟨pe_ix hr ha.pe hb.pe hs, fun q => ev_op (ha.ev q) (hb.ev q) (hv q)⟩
theorem je_ixOwn (c : Cz G k N sc B X) (i : Nat) {x : Str} {p : Pos} {z : Int} (hb : JE G.K g X b tb ρ π (.int z) π1) (hd : g → atI ds z = some d) (h : ρ[i]? = some (.own ds) := by rfl) (hN : N[i]? = some x := by rfl) (hv : Vis sc x := by first | exact Or.inl rfl | exact Or.inr (Or.inl rfl) | exact Or.inr (Or.inr rfl)) (hdb : (x == ("__debug__" : Str)) = false := by decide) (hcd : (x == ("__classdict__" : Str)) = false := by decide) (hs : PlainIx b := by exact fun _ _ => rfl) :
    JE G.K g X (.Subscript (.Name x p) b pos) (tOp (rIxL G.K) (tVar i) tb) ρ π d π1 := ⟨pe_ix (o_ixL c) (pvG c i hN hv hdb hcd) hb.pe hs, fun q => ev_ixOwn h (hb.ev q) (hd q)⟩
theorem je_ixPot (c : Cz G k N sc B X) (i : Nat) {x : Str} {p : Pos} {z v : Int} (hb : JE G.K g X b tb ρ π (.int z) π1) (hd : g → atI π1.vs z = some (.int v)) (h : ρ[i]? = some .pot := by rfl) (hN : N[i]? = some x := by rfl) (hv : Vis sc x := by first | exact Or.inl rfl | exact Or.inr (Or.inl rfl) | exact Or.inr (Or.inr rfl)) (hdb : (x == ("__debug__" : Str)) = false := by decide) (hcd : (x == ("__classdict__" : Str)) = false := by decide) (hs : PlainIx b := by exact fun _ _ => rfl) :
    JE G.K g X (.Subscript (.Name x p) b pos) (tOp (rIxL G.K) (tVar i) tb) ρ π (.int v) π1 := ⟨pe_ix (o_ixL c) (pvG c i hN hv hdb hcd) hb.pe hs, fun q => ev_ixPot h (hb.ev q) (hd q)⟩
theorem jl_rep {n : Int} (ha : JL G.K g X a ta ρ π ds π1) (hb : JE G.K g X b tb ρ π1 (.int n) π2) (h : g → (-(2 ^ 63) ≤ n ∧ n < 2 ^ 63) ∧ ds.length * n.toNat ≤ sizeLine) : JL G.K g X (.BinOp a .Mult b pos) (tOp rRep ta tb) ρ π (List.replicate n.toNat ds).flatten π2 := ⟨pe_op op_rep ha.pe hb.pe, fun q => el_rep (ha.ev q) (hb.ev q) (h q).1 (h q).2⟩
theorem jl_cat (ha : JL G.K g X a ta ρ π ds π1) (hb : JL G.K g X b tb ρ π1 es π2) (h : g → ds.length + es.length ≤ sizeLine) : JL G.K g X (.BinOp a .Add b pos) (tOp rCat ta tb) ρ π (ds ++ es) π2 := ⟨pe_op op_cat ha.pe hb.pe, fun q => el_cat (ha.ev q) (hb.ev q) (h q)⟩
theorem jl_revL (c : Cz G k N sc B X) {kk : Nat} {p1 p2 p3 : Pos} (h : JE G.K g X e te ρ π (.list ds) π1) : JL G.K g X (.Subscript e (.Slice none none (some (.UnaryOp .USub (.Constant (.int 1) kk p1) p2)) p3) pos) (tRevL G.K te) ρ π ds.reverse π1 :=
  ⟨toK (P := fun K => PE X (.Subscript e (.Slice none none (some (.UnaryOp .USub (.Constant (.int 1) kk p1) p2)) p3) pos) (tRevL K te)) c (pe_revL h.pe), fun q => el_rev (h.ev q)⟩
theorem je_revS {kk : Nat} {p1 p2 p3 : Pos} {a : List Nat} (h : JE G.K g X e te ρ π (.str (S a)) π1) (hz : g → a.length ≤ sizeLine) : JE G.K g X (.Subscript e (.Slice none none (some (.UnaryOp .USub (.Constant (.int 1) kk p1) p2)) p3) pos) (tRevS te) ρ π (.str (S a.reverse)) π1 := ⟨pe_revS h.pe, fun q => ev_revS (h.ev q) (hz q)⟩
structure JO (K : PySem.W.Frag) (g : Prop) (X : Cx) (e : Option Expr) (to : TO) (ρ : List Sl) (π : Pot) (o : Option Int) (π' : Pot) : Prop where
  po : PO X e to
  ev : g → EvO K to ρ π o π'
theorem jo_none : JO G.K g X none tNoPart ρ π none π := ⟨po_none, fun _ => eo_none⟩
theorem jo_some {i : Int} (h : JE G.K g X e te ρ π (.int i) π1) : JO G.K g X (some e) (tPart te) ρ π (some i) π1 := ⟨po_some h.pe, fun q => eo_some (h.ev q)⟩
theorem je_slS {lo hi : Option Expr} {tl th : TO} {o1 o2 : Option Int} {p2 : Pos} {a : List Nat} (h : JE G.K g X e te ρ π (.str (S a)) π1) (hl : JO G.K g X lo tl ρ π1 o1 π2) (hh : JO G.K g X hi th ρ π2 o2 π3) (hz : g → a.length ≤ sizeLine) : JE G.K g X (.Subscript e (.Slice lo hi none p2) pos) (tSl rSlS te tl th) ρ π (.str (S (cutN a o1 o2))) π3 :=
  ⟨pe_slice sl_str h.pe hl.po hh.po, fun q => ev_slS (h.ev q) (hl.ev q) (hh.ev q) (hz q)⟩
theorem je_slT (c : Cz G k N sc B X) {lo hi : Option Expr} {tl th : TO} {o1 o2 : Option Int} {p2 : Pos} (h : JE G.K g X e te ρ π (.tuple ds) π1) (hl : JO G.K g X lo tl ρ π1 o1 π2) (hh : JO G.K g X hi th ρ π2 o2 π3) (hs : g → ¬ (HT.sIx ds.length 0 o1 = 0 ∧ HT.sIx ds.length ds.length o2 = ds.length)) : JE G.K g X (.Subscript e (.Slice lo hi none p2) pos) (tSl (rSlT G.K) te tl th) ρ π (.tuple (cutN ds o1 o2)) π3 :=
  ⟨toK (P := fun K => PE X (.Subscript e (.Slice lo hi none p2) pos) (tSl (rSlT K) te tl th)) c (pe_slice sl_tup h.pe hl.po hh.po), fun q => ev_slT (h.ev q) (hl.ev q) (hh.ev q) (hs q)⟩
theorem jl_slL (c : Cz G k N sc B X) {lo hi : Option Expr} {tl th : TO} {o1 o2 : Option Int} {p2 : Pos} (h : JE G.K g X e te ρ π (.list ds) π1) (hl : JO G.K g X lo tl ρ π1 o1 π2) (hh : JO G.K g X hi th ρ π2 o2 π3) : JL G.K g X (.Subscript e (.Slice lo hi none p2) pos) (tSl (rSlL G.K) te tl th) ρ π (cutN ds o1 o2) π3 :=
  ⟨toK (P := fun K => PE X (.Subscript e (.Slice lo hi none p2) pos) (tSl (rSlL K) te tl th)) c (pe_slice sl_list h.pe hl.po hh.po), fun q => el_slL (h.ev q) (hl.ev q) (hh.ev q)⟩
/-- own[i] = v -/
theorem js_setOwn (c : Cz G k N sc B X) (i : Nat) {x : Str} {p tpos : Pos} {z : Int} {j : Nat} (he : JE G.K g X e te ρ π d π1) (hi : JE G.K g X b tb ρ π1 (.int z) π2) (hj : g → ixN ds.length z = some j) (kk : g → C.nx (ρ.set i (.own (ds.set j d))) π2 := by exact fun _ => ⟨rfl, rfl⟩) (h : ρ[i]? = some (.own ds) := by rfl) (hN : N[i]? = some x := by rfl) (hv : Vis sc x := by first | exact Or.inl rfl | exact Or.inr (Or.inl rfl) | exact Or.inr (Or.inr rfl)) (hdb : (x == ("__debug__" : Str)) = false := by decide) (hcd : (x == ("__classdict__" : Str)) = false := by decide)
    (ha : ∀ v, assign (.Subscript (.Name x p) b tpos) X.env v = (do
      let ov ← holding [v] (eval (.Name x p) X.env)
      let iv ← holding [v, ov] (eval b X.env)
      standAt tpos
      holding [v, ov, iv] (setItem ov iv v)
      release [v, ov, iv] []) := by intro _; rfl) (hs : swapsWithSole [.Subscript (.Name x p) b tpos] e pos.line X.env = pure false := by rfl) (hw : swappedStores [.Subscript (.Name x p) b tpos] e X.env = pure none := by rfl) (h1 : (assignEach [.Subscript (.Name x p) b tpos] X.env).map (·.2) = [assign (.Subscript (.Name x p) b tpos) X.env] := by rfl) :
    JS G.K g X (.Assign [.Subscript (.Name x p) b tpos] e pos) (tAsg te (gSub (tVar i) tb rSetL)) ρ π C :=
  ⟨ps_asg he.pe (pg_sub (pvG c i hN hv hdb hcd) hi.pe set_list ha) hs hw h1, fun q => es_setOwn h (he.ev q) (hi.ev q) (hj q) (kk q)⟩
theorem js_setPot (c : Cz G k N sc B X) (i : Nat) {x : Str} {p tpos : Pos} {z v : Int} {j : Nat} {π' : Pot} (he : JE G.K g X e te ρ π (.int v) π1) (hi : JE G.K g X b tb ρ π1 (.int z) π2) (hj : ixN 3 z = some j) (hvs : π2.vs.set j (.int v) = π'.vs) (kk : g → C.nx ρ π' := by exact fun _ => ⟨rfl, rfl⟩) (h : ρ[i]? = some .pot := by rfl) (hN : N[i]? = some x := by rfl) (hv : Vis sc x := by first | exact Or.inl rfl | exact Or.inr (Or.inl rfl) | exact Or.inr (Or.inr rfl)) (hdb : (x == ("__debug__" : Str)) = false := by decide) (hcd : (x == ("__classdict__" : Str)) = false := by decide)
    (ha : ∀ v, assign (.Subscript (.Name x p) b tpos) X.env v = (do
      let ov ← holding [v] (eval (.Name x p) X.env)
      let iv ← holding [v, ov] (eval b X.env)
      standAt tpos
      holding [v, ov, iv] (setItem ov iv v)
      release [v, ov, iv] []) := by intro _; rfl) (hs : swapsWithSole [.Subscript (.Name x p) b tpos] e pos.line X.env = pure false := by rfl) (hw : swappedStores [.Subscript (.Name x p) b tpos] e X.env = pure none := by rfl) (h1 : (assignEach [.Subscript (.Name x p) b tpos] X.env).map (·.2) = [assign (.Subscript (.Name x p) b tpos) X.env] := by rfl) :
    JS G.K g X (.Assign [.Subscript (.Name x p) b tpos] e pos) (tAsg te (gSub (tVar i) tb rSetL)) ρ π C :=
  ⟨ps_asg he.pe (pg_sub (pvG c i hN hv hdb hcd) hi.pe set_list ha) hs hw h1, fun q => es_setPot h (he.ev q) (hi.ev q) hj hvs (kk q)⟩
/-! ### defs by name -/
def At (G : Glb) (x : Str) (st : Stmt) : Prop := ∃ f fd, FunD G.K x x (defArgs st) (defBody st) (defScope st) [] [] f fd ∧ G.mg x = some (.ref f)
theorem mkDf {x : Str} {st : Stmt} {ps : List Str} {R : Says} (A : At G x st) (Sc : FnScope N ps (defScope st)) (len : ∀ π as d π', R π as d π' → as.length = ps.length)
    (bd : ∀ (kV doc pm : Value) (an : Option Addr) (cdv ct : Value) (us : List Value), us.length = ps.length → bindArgs (PySem.W.fnOf x x (defArgs st) (defBody st) (defScope st) .none kV doc pm an cdv ct) ⟨us, []⟩ = pure (ps.zip us))
    (hb : ∀ X, Cz G k N (defScope st) true X → ∀ π as d π', R π as d π' → ∃ ts, JSs G.K True X (defBody st) ts (startR N as) π (toEnd d π')) : Df G (k + 1) x ps R := by
  obtain ⟨f, fd, F, hm⟩ := A
  exact ⟨f, fd, fnG F Sc len hb, F.bindsN bd, hm, F.kp⟩
end
end JD

/-! ## JDIter -/
set_option Elab.async false
set_option linter.all false
set_option maxRecDepth 100000
set_option maxHeartbeats 2000000
/-! JD: enumerate over a text, a tuple, a list; zip of two texts -/
namespace JD
open PySem PySem.Spec PyProof.Rows L2

/-- new pairs, told by their number -/
def Itp (n : Nat) (f g : Nat → V) : It := ⟨fun i _ => i < n, fun i H v H' => ∃ T, v = .ref T ∧ H T = none ∧ H' = upd H T (.tup [f i, g i]), fun i _ => n ≤ i⟩
/-- new pairs of a number and an item of the tuple at a -/
def Itet (K : PySem.W.Frag) (a : Addr) : It :=
  ⟨fun i H => ∃ (xs : List V) (x : V), SqT K H a xs ∧ xs[i]? = some x, fun i H v H' => ∃ T x, v = .ref T ∧ H T = none ∧ H' = upd H T (.tup [.int (i : Nat), x]) ∧ ∀ xs, SqT K H a xs → xs[i]? = some x, fun i H => ∃ xs : List V, SqT K H a xs ∧ xs.length ≤ i⟩

theorem enum_turned {X : Cx} {pins : List (Addr × Obj)} {σ : L2.St} {H : Hp} {s : Shared} {E : Value → Shared → Prop} {J : It} {e it : Addr} {i : Nat} {elts : List Expr} {kk : Nat} {tpos : Pos} {fp : List Addr} {n : Nat} {P : Nat → Value → Prop} {St : Nat → Heap → Prop} {old : Value} {tn : Nat → Heap → Prop}
    (I : Inv X pins σ H s) (hf : ∀ b ∈ [e, it], FpOk X pins H b) (he : IsEnum s.heap e it ((i : Nat) : Int) old) (hit : ∃ o, s.heap.get? it = some o) (D : Draws X.prog X.w X.A.in1 it fp n P St) (hst : St i s.heap) (hlt : i < n) (hne : e ≠ it) (hef : e ∉ fp) (ret : ∀ h', St (i + 1) h' → (∃ old, IsEnum h' e it (((i + 1 : Nat)) : Int) old) → tn (i + 1) h')
    (y : ∀ u T, P i u → H T = none → ∃ x, RelV x u ∧ J.yld i H (.ref T) (upd H T (.tup [.int (i : Nat), x]))) :
    wpAny (model X.prog X.w) X.A (pyNext (.ref e)) (fun r s1 => ∃ u, r = some u ∧ wpAny (model X.prog X.w) X.A (letOwnedTupleGo (.Tuple elts kk tpos) (.ref e) u) (fun _ s2 => ∃ x H', Inv X pins σ H' s2 ∧ RelV x u ∧ J.yld i H x H' ∧ tn (i + 1) s2.heap ∧ ∀ b ∈ [e, it], H' b = none) E s1) E s := by
  have hel : e < s.heap.objs.size := Heap.lt_size he
  have hil : it < s.heap.objs.size := by obtain ⟨_, q⟩ := hit; exact Heap.lt_size q
  refine wpAny_pyNext_enum_itemD D he hst hlt hne hef fun u h' tk hP ho hs' hT hsz hk => ?_
  refine ⟨_, rfl, wpAny_letOwnedTupleGo_enum (s := { s with heap := h', toks := tk + 1 }) ho fun h'' he' sb => ?_⟩
  have hT2 : h''.get? s.heap.objs.size = some { cls := .type "tuple", data := .seq #[.int i tk, u] } := (sb.2 _ (Nat.ne_of_gt hel)).trans hT
  obtain ⟨x, ru, yy⟩ := y u s.heap.objs.size hP (I.hok.fresh (Nat.le_refl _))
  have new : ObjOk X.prog X.w (upd H s.heap.objs.size (.tup [.int (i : Nat), x])) h'' s.heap.objs.size (.tup [.int (i : Nat), x]) :=
    ⟨by show 2 ≤ sizeLine; decide, [.int i tk, u], .cons ⟨_, rfl⟩ (.cons ru .nil), ⟨_, hT2, rfl, _, rfl⟩⟩
  have I1 : Inv X pins σ (upd H s.heap.objs.size (.tup [.int (i : Nat), x])) { s with heap := h'', toks := tk + 1 } :=
    I.turnedNew (ch := [e, it]) (fun b ob hb q => (sb.2 b (fun z => hb (by simp [z]))).trans (hk b ob (fun z => hb (by simp [z])) (fun z => hb (by simp [z])) q)) hf (Nat.le_refl _) new
  refine ⟨.ref s.heap.objs.size, _, I1, rfl, yy, ret _ (D.over hs' sb hef) ⟨u, ?_⟩, fun b hb => ?_⟩
  · have e1 : ((i + 1 : Nat) : Int) = (i : Int) + 1 := by omega
    rw [e1]; exact he'
  · have hb' : b < s.heap.objs.size := by
      have e' : b = e ∨ b = it := by simpa using hb
      rcases e' with z | z
      · rw [z]; exact hel
      · rw [z]; exact hil
    rw [upd_ne (Nat.ne_of_lt hb')]
    exact (hf b hb).1
theorem strIter_ok {h : Heap} {it : Addr} {x : Str} {t : Tok} {i : Nat} (q : h.IsStrIter it (strIterType x) x t i) : ∃ o, h.get? it = some o ∧ ∀ v, o.data ≠ .cell v := by
  obtain ⟨o, e, _, d⟩ := q
  exact ⟨o, e, fun v z => by rw [d] at z; cases z⟩
abbrev tnS (x : Str) (t : Tok) (e it : Addr) : Nat → Heap → Prop := fun i h => (∃ old, IsEnum h e it ((i : Nat) : Int) old) ∧ h.IsStrIter it (strIterType x) x t i ∧ e ≠ it ∧ i ≤ x.cps.size
theorem turn_enumS {P : Program} {w : World} {K : PySem.W.Frag} {elts : List Expr} {kk : Nat} {tpos : Pos} (x : Str) (t : Tok) (e it : Addr) :
    Turn P w K (.Tuple elts kk tpos) (Itp x.cps.size (fun i => .int (i : Nat)) (fun i => .str ⟨#[x.cps.getD i 0]⟩)) [e, it] e (tnS x t e it) where
  mem := by simp
  obj := fun i h st b hb => by
    obtain ⟨⟨old, he⟩, hi, _⟩ := st
    have e' : b = e ∨ b = it := by simpa using hb
    rcases e' with z | z
    · rw [z]; exact ⟨_, he, fun v q => nomatch q⟩
    · rw [z]; exact strIter_ok hi
  keep := fun i h h' st k => by
    obtain ⟨⟨old, he⟩, ⟨o, e1, r⟩, hne, hl⟩ := st
    exact ⟨⟨old, k e (by simp) _ he⟩, ⟨o, k it (by simp) o e1, r⟩, hne, hl⟩
  item := by
    intro X hP hw hK hc i pins s σ H E I hf st hg
    subst hP hw hK
    obtain ⟨⟨old, he⟩, hit, hne, hl⟩ := st
    have D := Draws.text (prog := X.prog) (w := X.w) (A := X.A.in1) (I.ok.hd hc) it x t
    refine enum_turned (tn := tnS x t e it) I hf he (let ⟨o, q, _⟩ := hit; ⟨o, q⟩) D hit hg hne (fun z => hne (by simpa using z)) (fun h' q1 q2 => ⟨q2, q1, hne, hg⟩) fun u T hu hT => ?_
    obtain ⟨c, tk, hc', rfl⟩ := hu
    refine ⟨.str ⟨#[c]⟩, ⟨_, rfl⟩, T, rfl, hT, ?_⟩
    have e2 : x.cps.getD i 0 = c := by rw [Array.getD_eq_getD_getElem?, hc']; rfl
    show _ = upd H T (.tup [.int (i : Nat), .str ⟨#[x.cps.getD i 0]⟩])
    rw [e2]
  done := by
    intro X hP hw hK hc i pins s σ H E I hf st hg
    subst hP hw hK
    obtain ⟨⟨old, he⟩, hit, hne, hl⟩ := st
    obtain ⟨f0, f1, f2, f3, f4, f5⟩ := hf it (by simp)
    have e1 : i = x.cps.size := Nat.le_antisymm hl hg
    rw [e1] at hit
    have D := Draws.text (prog := X.prog) (w := X.w) (A := X.A.in1) (I.ok.hd hc) it x t
    exact wpAny_pyNext_enum_endD D he hit fun h' eb => ⟨rfl, I.turned (t' := s.toks) (fun b o hb q => eb b o hb q) f0 f1 f3 f4 f5⟩
  self := fun A i s Q E st h => let ⟨⟨_, he⟩, _⟩ := st; wpAny_pyIter_enum he h
abbrev tnT (a e it : Addr) : Nat → Heap → Prop := fun i h => (∃ old, IsEnum h e it ((i : Nat) : Int) old) ∧ h.IsTupleIter it a i ∧ e ≠ it ∧ a ≠ it ∧ e ≠ a
theorem turn_enumT {P : Program} {w : World} {K : PySem.W.Frag} {elts : List Expr} {kk : Nat} {tpos : Pos} (a e it : Addr) :
    Turn P w K (.Tuple elts kk tpos) (Itet K a) [e, it] e (tnT a e it) where
  mem := by simp
  obj := fun i h st b hb => by
    obtain ⟨⟨old, he⟩, ⟨o, ho, hc, hd⟩, _⟩ := st
    have e' : b = e ∨ b = it := by simpa using hb
    rcases e' with z | z
    · rw [z]; exact ⟨_, he, fun v q => nomatch q⟩
    · rw [z]; exact ⟨o, ho, fun v q => by rw [hd] at q; cases q⟩
  keep := fun i h h' st k => let ⟨⟨old, he⟩, hi, hne⟩ := st; ⟨⟨old, k e (by simp) _ he⟩, hi.at fun o q => k it (by simp) o q, hne⟩
  item := by
    intro X hP hw hK hc i pins s σ H E I hf st hg
    subst hP hw hK
    obtain ⟨⟨old, he⟩, hit, hne, hai, hea⟩ := st
    obtain ⟨xs, x, hq, hx⟩ := hg
    obtain ⟨its, rv, p, hz⟩ := I.tuple hq
    obtain ⟨u0, hu0, ru0⟩ := rv.get hx
    have D := Draws.tuple (prog := X.prog) (w := X.w) (A := X.A.in1) (I.ok.hd hc) it a hai its.toArray
    have hlt : i < its.toArray.size := by
      have q := (List.getElem?_eq_some_iff.mp hu0).1
      simpa using q
    refine enum_turned (tn := tnT a e it) (n := its.toArray.size) I hf he (let ⟨o, q, _⟩ := hit; ⟨o, q⟩) D ⟨hit, show s.heap.IsTuple a its.toArray from p⟩ hlt hne (fun z => by
      have e' : e = it ∨ e = a := by simpa using z
      exact e'.elim hne hea) (fun h' q1 q2 => ⟨q2, q1.1, hne, hai, hea⟩) fun u T hu hT => ?_
    have hu' : u = u0 := by
      have q : its.toArray[i]? = some u := hu
      rw [show its.toArray[i]? = some u0 by simpa using hu0] at q
      exact (Option.some.inj q).symm
    subst hu'
    exact ⟨x, ru0, T, x, rfl, hT, rfl, fun ys hy => by rw [I.tuple_inj hy hq]; exact hx⟩
  done := by
    intro X hP hw hK hc i pins s σ H E I hf st hg
    subst hP hw hK
    obtain ⟨⟨old, he⟩, hit, hne, hai, hea⟩ := st
    obtain ⟨xs, hq, hx⟩ := hg
    obtain ⟨its, rv, p, hz⟩ := I.tuple hq
    obtain ⟨f0, f1, f2, f3, f4, f5⟩ := hf it (by simp)
    have hl := rv.length
    have hT : s.TypeIs (.ref e) "enumerate" := ⟨_, he, rfl⟩
    unfold pyNext
    refine wpAny_bind (wpAny_attempt (wpAny_callSpecial?_slot (name := Str.ofString "__next__") hT F.slot_enumerate_next
      (wpAny_call_entry F.slot_enumerate_next hT F.entry_enumerate_next ?_ (F.args_enumerate_next_1 _))))
    show wpAny _ _ (field (.ref e) 2 >>= _) _ _ _
    refine wpAny_bind (wpAny_field he rfl (x := .ref it) rfl ?_)
    refine wpAny_bind (wpAny_nextOf_tuple_end (A := X.A.in1) (I.ok.hd hc) hit (show s.heap.IsTuple a its.toArray from p) (by simp; omega) fun h' x eb hx' => ?_)
    obtain ⟨o, ho, hcx⟩ := hx'
    refine wpAny_bind (wpAny_isInstance (T := "StopIteration") (b := true) ⟨o, ho, hcx⟩ isSubtype_stop ?_)
    exact wpAny_pure ⟨rfl, I.turned (t' := s.toks) (fun b o hb q => eb b o hb q) f0 f1 f3 f4 f5⟩
  self := fun A i s Q E st h => let ⟨⟨_, he⟩, _⟩ := st; wpAny_pyIter_enum he h
/-! ### enumerate(v) begins, v of any kind -/
theorem meets_enum1 {v : Value} {o : Obj} {H : Heap → Prop} (B : Begins v o H) :
    Meets (Builtin.«enumerate.__new__» ⟨[.type "enumerate", v], []⟩) (fun _ R s => H s.heap ∧
      R (.ok (.ret (.ref (s.heap.push o).objs.size))) { s with heap := (s.heap.push o).push { cls := .type "enumerate", data := .fields #[.none, .bool false, .ref s.heap.objs.size, rawInt 0, .none, .none] } }) :=
  .of_wp fun prog w A R s h => by
    obtain ⟨hp, g, d, tk, os⟩ := s; obtain ⟨h1, h⟩ := h
    have hsub := sub_enumerate
    have q1 : ∀ {A' : Around} {E : Value → Shared → Prop} {Q : Value → Shared → Prop}, Q (.ref hp.objs.size) ⟨hp.push o, g, d, tk, os⟩ → wpAny (model prog w) A' (pyIter v) Q E ⟨hp, g, d, tk, os⟩ :=
      fun q => B.iter prog w _ _ ⟨hp, g, d, tk, os⟩ _ h1 q
    wp_walk using q1
    refine wpAny_stack_any fun st => wpAny_pure ?_
    split
    · rename_i c _ _ _ _ _
      cases (c == Value.type "enumerate")
      · wp_walk using q1
        exact ⟨_, rfl, h⟩
      · wp_walk using q1
        exact ⟨_, rfl, h⟩
    · wp_walk using q1
      exact ⟨_, rfl, h⟩
theorem call_enum1 {prog : Program} {w : World} {A : Around} {E : Value → Shared → Prop} {s : Shared} {v : Value} {o : Obj} {H : Heap → Prop} {Q : Value → Shared → Prop} (B : Begins v o H) (h1 : H s.heap)
    (h : ∀ h', IsEnum h' (s.heap.objs.size + 1) s.heap.objs.size 0 .none → h'.get? s.heap.objs.size = some o → h'.objs.size = s.heap.objs.size + 2 →
      (∀ b o, s.heap.get? b = some o → h'.get? b = some o) → Q (.ref (s.heap.objs.size + 1)) { s with heap := h' }) :
    wpAny (model prog w) A (call (.type "enumerate") [v]) Q E s := by
  refine callType_new F.called_enumerate (by decide) (F.typeCall_enumerate_1 _) (F.newCall_enumerate_1 _) (fun obj => F.args_object_init_2 obj _) F.entry_enumerate_new
    (meets_enum1 B) ⟨h1, ?_⟩
  have hz : (s.heap.push o).objs.size = s.heap.objs.size + 1 := Heap.size_push ..
  show _ ∧ _
  rw [hz]
  have he : IsEnum ((s.heap.push o).push { cls := .type "enumerate", data := .fields #[.none, .bool false, .ref s.heap.objs.size, rawInt 0, .none, .none] }) (s.heap.objs.size + 1) s.heap.objs.size 0 .none := by
    have := Heap.get?_push_size (s.heap.push o) (o := { cls := .type "enumerate", data := .fields #[.none, .bool false, .ref s.heap.objs.size, rawInt 0, .none, .none] }) rfl
    rw [hz] at this; exact this
  refine ⟨⟨_, he, rfl⟩, h _ he (Heap.get?_push_of_some _ (Heap.get?_push_size _ B.free)) (by rw [Heap.size_push, hz]) fun b o x => Heap.get?_push_of_some _ (Heap.get?_push_of_some _ x)⟩
def iEnumS (ta : TA) : TI := fun σ H R => ta σ H fun vs H1 => ∃ x : Str, vs = [.str x] ∧ R (Itp x.cps.size (fun i => .int (i : Nat)) (fun i => .str ⟨#[x.cps.getD i 0]⟩)) H1
def iEnumT (K : PySem.W.Frag) (ta : TA) : TI := fun σ H R => ta σ H fun vs H1 => ∃ a xs, vs = [.ref a] ∧ SqT K H1 a xs ∧ R (Itet K a) H1
section
variable {X : Cx} {e : Expr} {ta : TA} {p pos tpos : Pos} {elts : List Expr} {kk : Nat}
theorem pi_enumS (hg : Gl X "enumerate") (hm : X.mg "enumerate" = none) (ha : PA X [e] ta) (hs : starEach [e] X.env = [(false, eval e X.env)] := by rfl) :
    PI X (.Tuple elts kk tpos) (.Call (.Name "enumerate" p) [e] [] pos) (iEnumS ta) := by
  refine ⟨fun pins s σ H R I h => ?_⟩
  refine Call_ (ld_blt I hg hm boot_enumerate (PyProof.Rows.callWith_type1 (thn (ha.run pos pins s σ H _ I h) fun us s1 ⟨vs, H1, I1, r1, q1⟩ => ?_) hs rfl))
  obtain ⟨x, ex, q⟩ := q1
  subst ex
  cases r1 with
  | cons r rr =>
    cases rr
    obtain ⟨t, rfl⟩ := r
    refine call_enumerate_str fun h' he hit hsz hk => wpAny_pyIter_enum he ?_
    have I2 : Inv X pins σ H1 { s1 with heap := h' } := I1.kept (t' := s1.toks) hk
    refine ⟨s1.heap.objs.size + 1, [s1.heap.objs.size + 1, s1.heap.objs.size], _, _, H1, rfl, I2, turn_enumS x t (s1.heap.objs.size + 1) s1.heap.objs.size, ⟨⟨.none, he⟩, hit, Nat.succ_ne_self _, Nat.zero_le _⟩, fun b hb => ?_, q⟩
    have e' : b = s1.heap.objs.size + 1 ∨ b = s1.heap.objs.size := by simpa using hb
    have hle : s1.heap.objs.size ≤ b := by
      rcases e' with z | z
      · rw [z]; exact Nat.le_add_right _ _
      · rw [z]; exact Nat.le_refl _
    exact I1.fpOk hle (I1.hok.fresh hle)
theorem pi_enumT (hg : Gl X "enumerate") (hm : X.mg "enumerate" = none) (ha : PA X [e] ta) (hs : starEach [e] X.env = [(false, eval e X.env)] := by rfl) :
    PI X (.Tuple elts kk tpos) (.Call (.Name "enumerate" p) [e] [] pos) (iEnumT X.K ta) := by
  refine ⟨fun pins s σ H R I h => ?_⟩
  refine Call_ (ld_blt I hg hm boot_enumerate (PyProof.Rows.callWith_type1 (thn (ha.run pos pins s σ H _ I h) fun us s1 ⟨vs, H1, I1, r1, q1⟩ => ?_) hs rfl))
  obtain ⟨a, xs, ex, hq, q⟩ := q1
  subst ex
  cases r1 with
  | cons r rr =>
    cases rr
    cases r
    obtain ⟨its, rv, p', hz⟩ := I1.tuple hq
    have pt : s1.heap.IsTuple a its.toArray := p'
    have la : a < s1.heap.objs.size := by obtain ⟨o, q, _⟩ := p'; exact Heap.lt_size q
    refine call_enum1 (begins_tuple a its.toArray) pt fun h' he ho hsz hk => wpAny_pyIter_enum he ?_
    have I2 : Inv X pins σ H1 { s1 with heap := h' } := I1.kept (t' := s1.toks) hk
    refine ⟨s1.heap.objs.size + 1, [s1.heap.objs.size + 1, s1.heap.objs.size], _, _, H1, rfl, I2, turn_enumT a (s1.heap.objs.size + 1) s1.heap.objs.size, ⟨⟨.none, he⟩, ⟨_, ho, rfl, rfl⟩, Nat.succ_ne_self _, Nat.ne_of_lt la, Nat.ne_of_gt (Nat.lt_succ_of_lt la)⟩, fun b hb => ?_, q⟩
    have e' : b = s1.heap.objs.size + 1 ∨ b = s1.heap.objs.size := by simpa using hb
    have hle : s1.heap.objs.size ≤ b := by
      rcases e' with z | z
      · rw [z]; exact Nat.le_add_right _ _
      · rw [z]; exact Nat.le_refl _
    exact I1.fpOk hle (I1.hok.fresh hle)
end
/-! ### zip of two texts -/
abbrev tnZ (x y : Str) (t u : Tok) (z TI TO i1 i2 : Addr) : Nat → Heap → Prop := fun i h => IsZip h z TI TO .none ∧ IsTupOf2 h TI (.ref i1) (.ref i2) ∧ (∃ a b, IsTupOf2 h TO a b) ∧ h.IsStrIter i1 (strIterType x) x t i ∧ h.IsStrIter i2 (strIterType y) y u i ∧ i ≤ x.cps.size ∧ i ≤ y.cps.size
theorem turn_zipS {P : Program} {w : World} {K : PySem.W.Frag} {elts : List Expr} {kk : Nat} {tpos : Pos} (x y : Str) (t u : Tok) {z TI TO i1 i2 : Addr} (D : ZipSep2 z TI TO i1 i2 [i1] [i2]) :
    Turn P w K (.Tuple elts kk tpos) (Itp (min x.cps.size y.cps.size) (fun i => .str ⟨#[x.cps.getD i 0]⟩) (fun i => .str ⟨#[y.cps.getD i 0]⟩)) [z, TI, TO, i1, i2] z (tnZ x y t u z TI TO i1 i2) where
  mem := by simp
  obj := fun i h st c hc => by
    obtain ⟨hz, hTI, ⟨a, b, hTO⟩, h1, h2, _⟩ := st
    have e' : c = z ∨ c = TI ∨ c = TO ∨ c = i1 ∨ c = i2 := by simpa using hc
    rcases e' with q | q | q | q | q
    · rw [q]; exact ⟨_, hz, fun v q => nomatch q⟩
    · rw [q]; exact ⟨_, hTI, fun v q => nomatch q⟩
    · rw [q]; exact ⟨_, hTO, fun v q => nomatch q⟩
    · rw [q]; exact strIter_ok h1
    · rw [q]; exact strIter_ok h2
  keep := fun i h h' st k => by
    obtain ⟨hz, hTI, ⟨a, b, hTO⟩, ⟨o1, e1, r1⟩, ⟨o2, e2, r2⟩, hl⟩ := st
    exact ⟨k z (by simp) _ hz, k TI (by simp) _ hTI, ⟨a, b, k TO (by simp) _ hTO⟩, ⟨o1, k i1 (by simp) o1 e1, r1⟩, ⟨o2, k i2 (by simp) o2 e2, r2⟩, hl⟩
  item := by
    intro X hP hw hK hc i pins s σ H E I hf st hg
    subst hP hw hK
    obtain ⟨hz, hTI, ⟨a, b, hTO⟩, h1, h2, hl1, hl2⟩ := st
    have g1 : i < x.cps.size := Nat.lt_of_lt_of_le hg (Nat.min_le_left ..)
    have g2 : i < y.cps.size := Nat.lt_of_lt_of_le hg (Nat.min_le_right ..)
    have D1 := Draws.text (prog := X.prog) (w := X.w) (A := X.A.in1) (I.ok.hd hc) i1 x t
    have D2 := Draws.text (prog := X.prog) (w := X.w) (A := X.A.in1) (I.ok.hd hc) i2 y u
    have hzl : z < s.heap.objs.size := Heap.lt_size hz
    have l1 : i1 < s.heap.objs.size := by obtain ⟨o, q, _⟩ := h1; exact Heap.lt_size q
    have l2 : i2 < s.heap.objs.size := by obtain ⟨o, q, _⟩ := h2; exact Heap.lt_size q
    refine wpAny_pyNext_zipD2_item D D1 D2 hz hTI hTO h1 h2 g1 g2 fun x1 x2 h' tk y1 y2 z' TO' h1' h2' hT hsz hk => ?_
    refine ⟨_, rfl, wpAny_letOwnedTupleGo_zip (s := { s with heap := h', toks := tk }) z' fun h'' z'' sb => ?_⟩
    have hT2 : h''.get? s.heap.objs.size = some { cls := .type "tuple", data := .seq #[x1, x2] } := (sb.2 _ (Nat.ne_of_gt hzl)).trans hT
    obtain ⟨c1, t1, e1, rfl⟩ := y1
    obtain ⟨c2, t2, e2, rfl⟩ := y2
    have d1 : x.cps.getD i 0 = c1 := by rw [Array.getD_eq_getD_getElem?, e1]; rfl
    have d2 : y.cps.getD i 0 = c2 := by rw [Array.getD_eq_getD_getElem?, e2]; rfl
    have new : ObjOk X.prog X.w (upd H s.heap.objs.size (.tup [.str ⟨#[c1]⟩, .str ⟨#[c2]⟩])) h'' s.heap.objs.size (.tup [.str ⟨#[c1]⟩, .str ⟨#[c2]⟩]) :=
      ⟨by show 2 ≤ sizeLine; decide, [.str ⟨#[c1]⟩ t1, .str ⟨#[c2]⟩ t2], .cons ⟨_, rfl⟩ (.cons ⟨_, rfl⟩ .nil), ⟨_, hT2, rfl, _, rfl⟩⟩
    have I1 : Inv X pins σ (upd H s.heap.objs.size (.tup [.str ⟨#[c1]⟩, .str ⟨#[c2]⟩])) { s with heap := h'', toks := tk } :=
      I.turnedNew (t' := tk) (ch := [z, TI, TO, i1, i2]) (fun c o hb q => (sb.2 c (fun q' => hb (by simp [q']))).trans (hk c o (fun q' => hb (by simp [q'])) (fun q' => hb (by simp [q'])) (fun q' => hb (by simp [q'])) (fun q' => hb (by simp [q'])) q)) hf (Nat.le_refl _) new
    refine ⟨.ref s.heap.objs.size, _, I1, rfl, ⟨_, rfl, I.hok.fresh (Nat.le_refl _), ?_⟩, ⟨z'', ?_, ⟨.str ⟨#[c1]⟩ t1, .str ⟨#[c2]⟩ t2, ?_⟩, ?_, ?_, g1, g2⟩, fun c hcm => ?_⟩
    · show _ = upd H s.heap.objs.size (.tup [.str ⟨#[x.cps.getD i 0]⟩, .str ⟨#[y.cps.getD i 0]⟩])
      rw [d1, d2]
    · exact (sb.2 _ D.TIz).trans (hk _ _ D.TIz D.TITO D.TIi1 D.TIi2 hTI)
    · exact (sb.2 _ D.TOz).trans TO'
    · obtain ⟨o, q, r⟩ := h1'; exact ⟨o, (sb.2 _ (Ne.symm D.zi1)).trans q, r⟩
    · obtain ⟨o, q, r⟩ := h2'; exact ⟨o, (sb.2 _ (Ne.symm D.zi2)).trans q, r⟩
    · have hlt : c < s.heap.objs.size := by
        have e' : c = z ∨ c = TI ∨ c = TO ∨ c = i1 ∨ c = i2 := by simpa using hcm
        rcases e' with q | q | q | q | q
        · rw [q]; exact hzl
        · rw [q]; exact Heap.lt_size hTI
        · rw [q]; exact Heap.lt_size hTO
        · rw [q]; exact l1
        · rw [q]; exact l2
      rw [upd_ne (Nat.ne_of_lt hlt)]
      exact (hf c hcm).1
  done := by
    intro X hP hw hK hc i pins s σ H E I hf st hg
    subst hP hw hK
    obtain ⟨hz, hTI, ⟨a, b, hTO⟩, h1, h2, hl1, hl2⟩ := st
    have D1 := Draws.text (prog := X.prog) (w := X.w) (A := X.A.in1) (I.ok.hd hc) i1 x t
    have D2 := Draws.text (prog := X.prog) (w := X.w) (A := X.A.in1) (I.ok.hd hc) i2 y u
    have hg' : min x.cps.size y.cps.size ≤ i := hg
    exact wpAny_pyNext_zipD2_end D D1 D2 hz hTI hTO h1 h2 hl1 hl2 (by omega) fun h' tk hk => ⟨rfl, I.turnedL (t' := tk) (ch := [z, TI, TO, i1, i2]) (fun c o hb q =>
      hk c o (fun q' => hb (by simp [q'])) (fun q' => hb (by simp [q'])) (fun q' => hb (by simp [q'])) (fun q' => hb (by simp [q'])) q) hf⟩
  self := fun A i s Q E st h => wpAny_pyIter_zip st.1 h
def iZipS (ta : TA) : TI := fun σ H R => ta σ H fun vs H1 => ∃ x y : Str, vs = [.str x, .str y] ∧ R (Itp (min x.cps.size y.cps.size) (fun i => .str ⟨#[x.cps.getD i 0]⟩) (fun i => .str ⟨#[y.cps.getD i 0]⟩)) H1
theorem pi_zipS {X : Cx} {e e2 : Expr} {ta : TA} {p pos tpos : Pos} {elts : List Expr} {kk : Nat} (hg : Gl X "zip") (hm : X.mg "zip" = none) (ha : PA X [e, e2] ta)
    (hs : starEach [e, e2] X.env = (false, eval e X.env) :: starEach [e2] X.env := by rfl) (hpl : (backTo pos (starEach [e2] X.env)).any (·.1) = false := by rfl) :
    PI X (.Tuple elts kk tpos) (.Call (.Name "zip" p) [e, e2] [] pos) (iZipS ta) := by
  refine ⟨fun pins s σ H R I h => ?_⟩
  refine Call_ (ld_blt I hg hm PyProof.Rows.boot_zip (PyProof.Rows.callWith_type1 (thn (ha.run pos pins s σ H _ I h) fun us s1 ⟨vs, H1, I1, r1, q1⟩ => ?_) hs hpl))
  obtain ⟨x, y, ex, q⟩ := q1
  subst ex
  cases r1 with
  | cons r rr =>
    cases rr with
    | cons r' rr =>
      cases rr
      obtain ⟨t, rfl⟩ := r
      obtain ⟨u, rfl⟩ := r'
      refine zip_begins2 (begins_text x t) (begins_text y u) trivial trivial fun h' hz hTI hTO h1 h2 hsz hk => wpAny_pyIter_zip hz ?_
      have I2 : Inv X pins σ H1 { s1 with heap := h' } := I1.kept (t' := s1.toks) hk
      refine ⟨s1.heap.objs.size + 4, [s1.heap.objs.size + 4, s1.heap.objs.size + 2, s1.heap.objs.size + 3, s1.heap.objs.size, s1.heap.objs.size + 1], _, _, H1, rfl, I2, turn_zipS x y t u (zip_sep2 (N := s1.heap.objs.size) (fp1 := []) (fp2 := []) (fun b hb => nomatch hb) (fun b hb => nomatch hb)), ⟨hz, hTI, ⟨_, _, hTO⟩, ⟨_, h1, rfl, rfl⟩, ⟨_, h2, rfl, rfl⟩, Nat.zero_le _, Nat.zero_le _⟩, fun c hcm => ?_, q⟩
      have e' : c = s1.heap.objs.size + 4 ∨ c = s1.heap.objs.size + 2 ∨ c = s1.heap.objs.size + 3 ∨ c = s1.heap.objs.size ∨ c = s1.heap.objs.size + 1 := by simpa using hcm
      have hle : s1.heap.objs.size ≤ c := by
        rcases e' with z | z | z | z | z
        · rw [z]; exact Nat.le_add_right _ _
        · rw [z]; exact Nat.le_add_right _ _
        · rw [z]; exact Nat.le_add_right _ _
        · rw [z]; exact Nat.le_refl _
        · rw [z]; exact Nat.le_add_right _ _
      exact I1.fpOk hle (I1.hok.fresh hle)
/-! ### what is walked, by data -/
section
variable {K : PySem.W.Frag} {ρ : List Sl} {π π1 : Pot} {ta : TA}
theorem wk_pairs {S : Hp} {n : Nat} {f g : Nat → V} {df dg : Nat → PyData} (hf : ∀ i, i < n → ∀ H, Dp K H (f i) (df i)) (hg : ∀ i, i < n → ∀ H, Dp K H (g i) (dg i)) : WalkD K S (Itp n f g) n (fun i => .tuple [df i, dg i]) := by
  refine ⟨fun i H hi _ => hi, fun H _ => Nat.le_refl _, fun i H v H' hi _ y => ?_⟩
  obtain ⟨T, e1, e2, e3⟩ := y
  subst e1 e3
  exact ⟨Same.new e2, fun M dm _ => new_tup dm e2 (.cons (hf i hi _) (.cons (hg i hi _) .nil))⟩
theorem ei_enumS {x : Str} (h : EvA K ta ρ π [.d (.str x)] π1) : EvI K (iEnumS ta) ρ π x.cps.size (fun i => .tuple [.int (i : Int), .str ⟨#[x.cps.getD i 0]⟩]) π1 := fun w H σ R Q q =>
  h w H σ R _ fun vs H1 e1 p1 q1 => by
    obtain ⟨v, rfl, hv⟩ := all1 (AgAll.data (ds := [.str x]) q1)
    cases hv
    exact ⟨x, rfl, q _ H1 e1 p1 (wk_pairs (fun i _ H => .int _) (fun i _ H => .str _))⟩
theorem ei_zipS {x y : Str} (h : EvA K ta ρ π [.d (.str x), .d (.str y)] π1) : EvI K (iZipS ta) ρ π (min x.cps.size y.cps.size) (fun i => .tuple [.str ⟨#[x.cps.getD i 0]⟩, .str ⟨#[y.cps.getD i 0]⟩]) π1 := fun w H σ R Q q =>
  h w H σ R _ fun vs H1 e1 p1 q1 => by
    obtain ⟨v, u, rfl, hv, hu⟩ := all2 (AgAll.data (ds := [.str x, .str y]) q1)
    cases hv; cases hu
    exact ⟨x, y, rfl, q _ H1 e1 p1 (wk_pairs (fun i _ H => .str _) (fun i _ H => .str _))⟩
theorem ei_enumL {ds : List PyData} (h : EvA K ta ρ π [.d (.list ds)] π1) : EvI K (iEnum K ta) ρ π ds.length (fun i => .tuple [.int (i : Int), ds.getD i .none]) π1 := fun w H σ R Q q =>
  h w H σ R _ fun vs H1 e1 p1 q1 => by
    obtain ⟨v, rfl, hv⟩ := all1 (AgAll.data (ds := [.list ds]) q1)
    cases hv with
    | @lst a xs _ a1 b1 =>
      refine ⟨a, xs, rfl, (mask_same _ _).seq a1, q _ H1 e1 p1 ?_⟩
      rw [← b1.len]
      refine ⟨fun i H hi s => ⟨xs, xs[i], s.seq a1, List.getElem?_eq_getElem hi⟩, fun H s => ⟨xs, s.seq a1, Nat.le_refl _⟩, fun i H v H' hi s y => ?_⟩
      obtain ⟨T, x, e1, e2, e3, e4⟩ := y
      subst e1 e3
      refine ⟨Same.new e2, fun M dm sm => ?_⟩
      obtain ⟨d, d1, d2⟩ := b1.getV (e4 xs (s.seq a1))
      show Dp K _ _ (.tuple [.int (i : Int), ds.getD i .none])
      rw [List.getD_eq_getElem?_getD, d1]
      exact new_tup dm e2 (.cons (.int _) (.cons (Dp.up sm _ d2) .nil))
theorem ei_enumT {ds : List PyData} (h : EvA K ta ρ π [.d (.tuple ds)] π1) : EvI K (iEnumT K ta) ρ π ds.length (fun i => .tuple [.int (i : Int), ds.getD i .none]) π1 := fun w H σ R Q q =>
  h w H σ R _ fun vs H1 e1 p1 q1 => by
    obtain ⟨v, rfl, hv⟩ := all1 (AgAll.data (ds := [.tuple ds]) q1)
    cases hv with
    | @tup a xs _ a1 b1 =>
      refine ⟨a, xs, rfl, SqT.up (mask_same _ _) a1, q _ H1 e1 p1 ?_⟩
      rw [← b1.len]
      refine ⟨fun i H hi s => ⟨xs, xs[i], SqT.up s a1, List.getElem?_eq_getElem hi⟩, fun H s => ⟨xs, SqT.up s a1, Nat.le_refl _⟩, fun i H v H' hi s y => ?_⟩
      obtain ⟨T, x, e1, e2, e3, e4⟩ := y
      subst e1 e3
      refine ⟨Same.new e2, fun M dm sm => ?_⟩
      obtain ⟨d, d1, d2⟩ := b1.getV (e4 xs (SqT.up s a1))
      show Dp K _ _ (.tuple [.int (i : Int), ds.getD i .none])
      rw [List.getD_eq_getElem?_getD, d1]
      exact new_tup dm e2 (.cons (.int _) (.cons (Dp.up sm _ d2) .nil))
end
section
variable {G : Glb} {k : Nat} {N : List Str} {sc : Scope} {B : Bool} {X : Cx} {g : Prop} {ρ : List Sl} {π π1 π2 : Pot} {e e1 e2 : Expr} {te ta tb : TE} {tpos pos p : Pos} {elts : List Expr} {kk : Nat}
theorem ji_enumS (c : Cz G k N sc B X) {cs : List Nat} (h : JE G.K g X e te ρ π (.str (S cs)) π1) (hm : G.mg "enumerate" = none) (hg : sc.names.lookup ("enumerate" : Str) = some .globalImplicit := by rfl) (hs : starEach [e] X.env = [(false, eval e X.env)] := by rfl) :
    JI G.K g X (.Tuple elts kk tpos) (.Call (.Name "enumerate" p) [e] [] pos) (iEnumS (tCons te tNil)) ρ π cs.length (fun i => .tuple [.int (i : Int), .str (S [cs.getD i 0])]) π1 :=
  ⟨pi_enumS (c.gl hg) (c.nn hm) (pa_cons h.pe pa_nil (by rw [hs]; rfl)) hs, fun q => (ei_enumS (ea_cons (h.ev q) ea_nil)).is (S_size cs) fun i _ => by rw [S_getD]⟩
theorem ji_enumL (c : Cz G k N sc B X) {ds : List PyData} (h : JE G.K g X e te ρ π (.list ds) π1) (hm : G.mg "enumerate" = none) (hg : sc.names.lookup ("enumerate" : Str) = some .globalImplicit := by rfl) (hs : starEach [e] X.env = [(false, eval e X.env)] := by rfl) :
    JI G.K g X (.Tuple elts kk tpos) (.Call (.Name "enumerate" p) [e] [] pos) (iEnum G.K (tCons te tNil)) ρ π ds.length (fun i => .tuple [.int (i : Int), ds.getD i .none]) π1 :=
  ⟨by have q := pi_enum (X := X) (elts := elts) (kk := kk) (tpos := tpos) (p := p) (pos := pos) (c.gl hg) (c.nn hm) (pa_cons h.pe pa_nil (by rw [hs]; rfl)) hs; rw [c.K] at q; exact q, fun q => ei_enumL (ea_cons (h.ev q) ea_nil)⟩
theorem ji_enumT (c : Cz G k N sc B X) {ds : List PyData} (h : JE G.K g X e te ρ π (.tuple ds) π1) (hm : G.mg "enumerate" = none) (hg : sc.names.lookup ("enumerate" : Str) = some .globalImplicit := by rfl) (hs : starEach [e] X.env = [(false, eval e X.env)] := by rfl) :
    JI G.K g X (.Tuple elts kk tpos) (.Call (.Name "enumerate" p) [e] [] pos) (iEnumT G.K (tCons te tNil)) ρ π ds.length (fun i => .tuple [.int (i : Int), ds.getD i .none]) π1 :=
  ⟨by have q := pi_enumT (X := X) (elts := elts) (kk := kk) (tpos := tpos) (p := p) (pos := pos) (c.gl hg) (c.nn hm) (pa_cons h.pe pa_nil (by rw [hs]; rfl)) hs; rw [c.K] at q; exact q, fun q => ei_enumT (ea_cons (h.ev q) ea_nil)⟩
theorem ji_zipS (c : Cz G k N sc B X) {cs es : List Nat} (h1 : JE G.K g X e1 ta ρ π (.str (S cs)) π1) (h2 : JE G.K g X e2 tb ρ π1 (.str (S es)) π2) (hm : G.mg "zip" = none) (hg : sc.names.lookup ("zip" : Str) = some .globalImplicit := by rfl) (hs : starEach [e1, e2] X.env = (false, eval e1 X.env) :: starEach [e2] X.env := by rfl)
    (hs2 : starEach [e2] X.env = (false, eval e2 X.env) :: starEach [] X.env := by rfl) (hpl : (backTo pos (starEach [e2] X.env)).any (·.1) = false := by rfl) :
    JI G.K g X (.Tuple elts kk tpos) (.Call (.Name "zip" p) [e1, e2] [] pos) (iZipS (tCons ta (tCons tb tNil))) ρ π (min cs.length es.length) (fun i => .tuple [.str (S [cs.getD i 0]), .str (S [es.getD i 0])]) π2 :=
  ⟨pi_zipS (c.gl hg) (c.nn hm) (pa_cons h1.pe (pa_cons h2.pe pa_nil hs2) hs) hs hpl, fun q => (ei_zipS (ea_cons (h1.ev q) (ea_cons (h2.ev q) ea_nil))).is (by rw [S_size, S_size]) fun i _ => by rw [S_getD, S_getD]⟩
theorem ji_strS {tg : Expr} {cs : List Nat} (h : JE G.K g X e te ρ π (.str (S cs)) π1) : JI G.K g X tg e (iStr te) ρ π cs.length (fun i => .str (S [cs.getD i 0])) π1 :=
  (ji_str h).is (fun _ => S_size cs) fun _ i _ => by rw [S_getD]
end
end JD

/-! ## JDMisc -/
set_option Elab.async false
set_option linter.all false
set_option maxRecDepth 100000
set_option maxHeartbeats 2000000
/-! JD: texts joined, lists of texts, dicts of pairs, min of data, a tuple handed back as it was made -/
namespace JD
open PySem PySem.Spec PyProof.Rows L2

section
variable {K : PySem.W.Frag} {ρ : List Sl} {π π1 : Pot} {te ta : TE}
/-! ### ''.join(list of texts) -/
theorem join_S0 (ys : List (List Nat)) : Txt.join (S []) (ys.map S) = S ys.flatten := by
  rw [TL.join_eq]
  refine TL.ext_tl ?_
  rw [TL.tl_join, List.map_map]
  have e : (TL.tl ∘ S : List Nat → List Nat) = id := funext fun a => by show TL.tl (S a) = a; exact S_toList a
  rw [e, List.map_id]
  have h : ∀ zs : List (List Nat), TL.joinL (TL.tl (S [])) zs = zs.flatten := fun zs => by
    show TL.joinL [] zs = _
    induction zs with
    | nil => rfl
    | cons z zs ih =>
      cases zs with
      | nil => simp [TL.joinL]
      | cons y ys => 
        have e2 : TL.joinL [] (z :: y :: ys) = z ++ ([] ++ TL.joinL [] (y :: ys)) := by simp [TL.joinL]
        rw [e2, ih, List.nil_append, List.flatten_cons, List.flatten_cons, List.flatten_cons]
  rw [h]
theorem ev_join {ys : List (List Nat)} {to : TE} (ho : EvD K to ρ π (.str (S [])) π) (h : EvD K te ρ π (.list (ys.map fun y => .str (S y))) π1) (hz : (ys.map List.length).sum ≤ 16777216) :
    EvD K (tM1 (fun x xs H Q => ∃ a p, ∃ ys : List Str, x = .str a ∧ xs = [.ref p] ∧ (SqL K H p (ys.map V.str) ∨ SqT K H p (ys.map V.str)) ∧ (ys.map (·.length)).sum + ys.length * a.length ≤ 16777216 ∧ Q (.str (Txt.join a ys)) H) to te) ρ π (.str (S ys.flatten)) π1 := fun w H σ R Q q =>
  ho w H σ R _ fun v H1 e1 p1 q1 => by
    cases q1
    refine ⟨⟨_, rfl⟩, h w H1 σ (R.step e1 p1) _ fun y H2 e2 p2 q2 => ?_⟩
    cases q2 with
    | @lst a0 xs0 _ a b =>
      have b' : DpAll K (mask (w.M ρ) H2) xs0 ((ys.map S).map .str) := by rw [List.map_map]; exact b
      have e : xs0 = (ys.map S).map V.str := b'.strs
      rw [e] at a
      refine ⟨S [], a0, ys.map S, rfl, rfl, .inl ((mask_same _ _).seq a), ?_, ?_⟩
      · rw [List.map_map]
        have e3 : ((fun x : Str => x.length) ∘ S) = List.length := funext fun z => S_length z
        rw [e3]
        show _ + _ * (S []).length ≤ _
        rw [S_length]
        simpa using hz
      · rw [join_S0]
        exact q _ H2 (e1.trans e2) p2 (.str _)
/-! ### list(text) -/
def rListS : List V → Hp → VK → Prop := fun xs H Q => ∃ cs : List Nat, xs = [.str (S cs)] ∧ cs.length ≤ sizeLine ∧ ∀ l, H l = none → Q (.ref l) (upd H l (.lst (cs.map fun c => .str (S [c]))))
theorem call_listS {X : Cx} (hc : X.calm = true) : CallR X (.type "list") rListS := by
  intro pins s σ H xs us Q I r h
  obtain ⟨cs, e, hz, q⟩ := h
  subst e
  obtain ⟨u, eu, rx⟩ := vals1 r
  subst eu
  obtain ⟨t, rfl⟩ := rx
  refine call_list_str (I.ok.hd hc) (S cs) t (fun h' tk acc c' hk hS hacc => ?_) (by rw [S_size]; exact hz)
  have I1 : Inv X pins σ (upd H s.heap.objs.size (.lst (cs.map fun c => .str (S [c])))) { s with heap := h', toks := tk } := by
    refine I.laid hk (Nat.le_refl _) (show ObjOk X.prog X.w _ _ _ (.lst (cs.map fun c => V.str (S [c]))) from ⟨by rw [List.length_map]; exact hz, acc.toList, c', ?_, ?_⟩)
    · refine vals_of_at (by have z := hacc.1; rw [S_size] at z; rw [List.length_map, Array.length_toList]; exact z.symm) fun j x w h1 h2 => ?_
      obtain ⟨c, u, e1, e2⟩ := hacc.2 j w (by rw [← Array.getElem?_toList]; exact h2)
      have e3 : cs[j]? = some c := by simpa using e1
      rw [List.getElem?_map, e3] at h1
      cases h1
      exact ⟨u, e2⟩
    · rw [Array.toArray_toList]; exact hS
  exact ⟨.ref s.heap.objs.size, _, I1, rfl, q _ (I.hok.fresh (Nat.le_refl _))⟩
theorem rc_listS {cs : List Nat} (hz : cs.length ≤ sizeLine) : RcL K rListS [.str (S cs)] (cs.map fun c => .str (S [c])) := fun M H vs dm h Q q => by
  obtain ⟨v, rfl, hv⟩ := all1 h
  cases hv
  refine ⟨cs, rfl, hz, fun l hl => q l _ hl ?_⟩
  have e : ∀ (H' : Hp) (cs : List Nat), DpAll K H' (cs.map fun c => V.str (S [c])) (cs.map fun c => PyData.str (S [c])) := fun H' cs => by
    induction cs with
    | nil => exact .nil
    | cons c cs ih => exact .cons (.str _) ih
  exact e _ _
/-! ### min of a list of data -/
def rMinD (K : PySem.W.Frag) : List V → Hp → VK → Prop := fun vs H Q => ∃ a xs d ds, vs = [.ref a] ∧ SqL K H a xs ∧ DpAll K H xs (d :: ds) ∧ PySem.W.AlikeAll (d :: ds) ∧ PyData.depthAll (d :: ds) ≤ 32 ∧ ∀ (i : Nat) v, xs[i]? = some v → (d :: ds)[i]? = some (PySem.W.minD d ds) → Q v H
theorem call_minD {X : Cx} {k : Nat} (hc : X.calm = true) (hr : Room k X.A) : CallR X (.builtin "min") (rMinD X.K) := by
  intro pins s σ H xs us Q I r h
  obtain ⟨a, ys, d, ds, e, hq, hd, ha, hdp, q⟩ := h
  subst e
  obtain ⟨u, eu, rx⟩ := vals1 r
  subst eu
  obtain rfl : u = Value.ref a := rx
  obtain ⟨its, rv, pl, hz⟩ := I.list hq
  obtain ⟨as, rd⟩ := Dp.readsAll I (d :: ds) ys its hd rv
  have un := hr.un
  refine PySem.W.min_list_data (I.ok.hd hc) pl.isList (by simpa using rd) ha (by omega) fun i v h' tk bs hv hrd hk => ?_
  have hv' : its[i]? = some v := by simpa using hv
  have I1 : Inv X pins σ H { s with heap := h', toks := tk } := I.kept hk
  have hi : i < ys.length := by rw [rv.length]; exact (List.getElem?_eq_some_iff.mp hv').1
  obtain ⟨u, hu, ru⟩ := rv.get (List.getElem?_eq_getElem hi)
  rw [hv'] at hu
  cases hu
  obtain ⟨di, e1, e2⟩ := hd.getV (List.getElem?_eq_getElem hi)
  obtain ⟨bs', rd'⟩ := Dp.reads I di ys[i] v e2 ru
  have e3 := (reads_det (h := s.heap) (h' := h') (fun b o x _ => hk b o x) rd' hrd).1
  exact ⟨ys[i], H, I1, ru, q i _ (List.getElem?_eq_getElem hi) (by rw [e1, e3])⟩
theorem DpAll.mem {H : Hp} : ∀ {ds : List PyData} {vs : List V} {v : V}, DpAll K H vs ds → v ∈ vs → ∃ d, Dp K H v d
  | _, _, _, .nil, hm => nomatch hm
  | _, _, _, .cons a b, hm => by
    rcases List.mem_cons.mp hm with e | hm
    · subst e; exact ⟨_, a⟩
    · exact DpAll.mem b hm
end
section
variable {G : Glb} {k : Nat} {N : List Str} {sc : Scope} {B : Bool} {X : Cx} {g : Prop} {ρ : List Sl} {π π1 π2 : Pot} {C : Cont} {e e1 e2 a b : Expr} {te ta tb : TE} {d d1 d2 : PyData} {ds es : List PyData} {pos : Pos}
theorem je_lenOwn (c : Cz G k N sc B X) (i : Nat) {x : Str} {p p2 : Pos} (hm : G.mg "len" = none) (h : ρ[i]? = some (.own ds) := by rfl) (hN : N[i]? = some x := by rfl) (hv : Vis sc x := by first | exact Or.inl rfl | exact Or.inr (Or.inl rfl) | exact Or.inr (Or.inr rfl)) (hdb : (x == ("__debug__" : Str)) = false := by decide) (hcd : (x == ("__classdict__" : Str)) = false := by decide)
    (hg : sc.names.lookup ("len" : Str) = some .globalImplicit := by rfl) (hs : starEach (.Name x p2 :: []) X.env = (false, eval (.Name x p2) X.env) :: starEach [] X.env := by rfl) (hpl : (backTo pos (starEach [] X.env)).any (·.1) = false := by rfl) :
    JE G.K g X (.Call (.Name "len" p) [.Name x p2] [] pos) (tCB (fun xs H Q => ∃ p ys, xs = [.ref p] ∧ (SqL G.K H p ys ∨ SqT G.K H p ys) ∧ Q (.int ys.length) H) (tCons (tVar i) tNil)) ρ π (.int ds.length) π :=
  ⟨pe_callB (c_lenL c) (c.gl hg) (c.nn hm) (by decide +kernel) (pa_cons (pvG c i hN hv hdb hcd) pa_nil hs) (by decide) (by decide) hs hpl, fun _ => ev_lenOwn h⟩
theorem je_join {ys : List (List Nat)} {j : Nat} {cpos apos : Pos} (h : JE G.K g X e te ρ π (.list (ys.map fun y => .str (S y))) π1) (hz : g → (ys.map List.length).sum ≤ 16777216) (c : Cz G k N sc B X)
    (hs : starEach [e] X.env = [(false, eval e X.env)] := by rfl) (hbase : attributeBase (.Constant (.str (S [])) j cpos) "join" X.env (eval (.Constant (.str (S [])) j cpos) X.env) = eval (.Constant (.str (S [])) j cpos) X.env := by rfl) (hline : (apos.endLine == pos.line) = true := by rfl) :
    JE G.K g X (.Call (.Attribute (.Constant (.str (S [])) j cpos) "join" apos) [e] [] pos) (tM1 (fun x xs H Q => ∃ a p, ∃ ys : List Str, x = .str a ∧ xs = [.ref p] ∧ (SqL G.K H p (ys.map V.str) ∨ SqT G.K H p (ys.map V.str)) ∧ (ys.map (·.length)).sum + ys.length * a.length ≤ 16777216 ∧ Q (.str (Txt.join a ys)) H) (tC (.str (S []))) te) ρ π (.str (S ys.flatten)) π1 :=
  ⟨by have q := pe_join (X := X) (apos := apos) (pos := pos) (o := .Constant (.str (S [])) j cpos) (to := tC (.str (S []))) pe_str h.pe hs hbase hline; rw [c.K] at q; exact q, fun q => ev_join (ev_c fun _ => .str _) (h.ev q) (hz q)⟩
end
/-! ### a tuple handed back as it was made -/
def PlainT (v : V) (H : Hp) : Prop := ∃ a o u, v = .ref a ∧ H a = some (.frz o u) ∧ o.dict = none
section
variable {X : Cx}
/-- tuple(list): its own object is kept in mind -/
def rTupPl (K : PySem.W.Frag) : List V → Hp → VK → Prop := fun xs H Q => ∃ p ys, xs = [.ref p] ∧ SqL K H p ys ∧ ∀ l o, H l = none → o.dict = none → Q (.ref l) (upd H l (.frz o (.tup ys)))
theorem call_tupPl : CallR X (.type "tuple") (rTupPl X.K) := by
  intro pins s σ H xs us Q I r h
  obtain ⟨p, ys, rfl, hq, q⟩ := h
  obtain ⟨u, rfl, rx⟩ := vals1 r
  obtain rfl : u = Value.ref p := rx
  obtain ⟨its, r', pl, hz⟩ := I.list hq
  have hlen := r'.length
  refine call_tuple_list pl.isList (fun h' kp => ?_) (by simp only [List.size_toArray] <;> omega)
  have I1 : Inv X pins σ H { s with heap := h' } := I.kept (t' := s.toks) kp
  have I2 : Inv X pins σ (upd H h'.objs.size (.frz { cls := .type "tuple", data := .seq its.toArray } (.tup ys))) { s with heap := h'.push { cls := .type "tuple", data := .seq its.toArray } } :=
    I1.laid (t' := s.toks) (fun b o e => Heap.get?_push_of_some _ e) (Nat.le_refl _) (show ObjOk X.prog X.w _ _ _ (.frz _ (.tup ys)) from ⟨Heap.get?_push_size _ rfl, hz, its, r', IsTup.new _ _⟩)
  exact ⟨.ref h'.objs.size, _, I2, rfl, q _ _ (I1.hok.fresh (Nat.le_refl _)) rfl⟩
/-- dict(a tuple of pairs), the tuple's own object known -/
def rDictPl (K : PySem.W.Frag) : List V → Hp → VK → Prop := fun xs H Q => ∃ (a : Addr) (o : Obj) (u : HO) (ps : List Addr) (kvs : List (Key × V)), xs = [.ref a] ∧ H a = some (.frz o u) ∧ o.dict = none ∧ SqT K H a (ps.map V.ref) ∧ Paired (fun p kv => SqT K H p [kV kv.1, kv.2]) ps kvs ∧
    ∀ p, H p = none → Q (.ref p) (upd H p (.dK (mergeK [] kvs)))
theorem call_dictPl (hcalm : X.calm = true) : CallR X (.type "dict") (rDictPl X.K) := by
  intro pins s σ H xs us Q I r q
  obtain ⟨a, o, u0, ps, kvs, ex, hfz, hdn, hq, hp, q⟩ := q
  subst ex
  obtain ⟨u, eu, rx⟩ := vals1 r
  subst eu
  obtain rfl : u = Value.ref a := rx
  obtain ⟨its, rv, pl, hz⟩ := I.tuple hq
  have ei := refs_at rv
  subst ei
  rw [List.length_map] at hz
  obtain ⟨prs, rel, hl, hpr⟩ := pairs_of I hp
  obtain ⟨o', ho, hc, n, hdat⟩ := (show s.heap.IsTuple a _ from pl)
  obtain ⟨ho2, _⟩ := (show ObjOk X.prog X.w H s.heap a (.frz o u0) from I.hok a _ hfz)
  rw [ho2] at ho
  cases ho
  -- the pairs by their addresses
  let Ts : Nat → Addr := fun j => ps.getD j 0
  have hpairs : ∃ vs : List (Value × Value), vs.length = prs.length ∧ ∀ (j : Nat) (q : Key × Value), prs[j]? = some q → ∃ u, vs[j]? = some (u, q.2) ∧ keyIs q.1 u = true ∧ IsTup s.heap (Ts j) #[u, q.2] := by
    have go : ∀ (n : Nat), n ≤ prs.length → ∃ vs : List (Value × Value), vs.length = n ∧ ∀ (j : Nat) (q : Key × Value), j < n → prs[j]? = some q → ∃ u, vs[j]? = some (u, q.2) ∧ keyIs q.1 u = true ∧ IsTup s.heap (Ts j) #[u, q.2] := by
      intro n
      induction n with
      | zero => exact fun _ => ⟨[], rfl, fun j q hj => absurd hj (Nat.not_lt_zero _)⟩
      | succ n ih =>
        intro hn
        obtain ⟨vs, h1, h2⟩ := ih (by omega)
        obtain ⟨b, u, e1, e2, e3⟩ := hpr n prs[n] (List.getElem?_eq_getElem (by omega))
        refine ⟨vs ++ [(u, prs[n].2)], by simp [h1], fun j q hj hq => ?_⟩
        by_cases c : j < n
        · obtain ⟨u', f1, f2, f3⟩ := h2 j q c hq
          exact ⟨u', by rw [List.getElem?_append_left (by omega)]; exact f1, f2, f3⟩
        · have ej : j = n := by omega
          subst ej
          have eq : prs[j] = q := by
            rw [List.getElem?_eq_getElem (by omega)] at hq
            exact Option.some.inj hq
          subst eq
          refine ⟨u, by rw [List.getElem?_append_right (by omega), h1]; simp, e3, ?_⟩
          have et : Ts j = b := by
            show ps.getD j 0 = b
            rw [List.getD_eq_getElem?_getD, e1]; rfl
          rw [et]; exact e2
    obtain ⟨vs, h1, h2⟩ := go prs.length (Nat.le_refl _)
    exact ⟨vs, h1, fun j q hq => h2 j q (List.getElem?_eq_some_iff.mp hq).1 hq⟩
  obtain ⟨vs, hv1, hv2⟩ := hpairs
  have hPI : PairItems s.heap (ps.map Value.ref).toArray Ts vs := by
    refine ⟨by simp [hv1, hl], fun j kk vv hj => ?_⟩
    have hjl : j < prs.length := by rw [← hv1]; exact (List.getElem?_eq_some_iff.mp hj).1
    obtain ⟨u, f1, f2, f3⟩ := hv2 j prs[j] (List.getElem?_eq_getElem hjl)
    rw [hj] at f1
    cases f1
    refine ⟨?_, .inl f3⟩
    have hjp : j < ps.length := by omega
    simp [hjp, Ts, List.getD_eq_getElem?_getD]
  refine PySem.call_dict_pairs (knd := mixKind X.prog X.w) (kvs := prs) (PairArg.tuple a (ps.map Value.ref).toArray Ts vs) (I.ok.hd hcalm) ⟨⟨o, n, ho2, hc, hdn, hdat⟩, hPI⟩ ⟨hv1.symm, fun i key v hrel => ?_⟩ (by rw [hv1, hl]; exact hz) fun h' tk hd' hk => ?_
  · have hil : i < prs.length := by rw [← hv1]; exact (List.getElem?_eq_some_iff.mp hrel).1
    obtain ⟨u, f1, f2, f3⟩ := hv2 i prs[i] (List.getElem?_eq_getElem hil)
    have hrel' : vs[i]? = some (key, v) := hrel
    rw [hrel'] at f1
    cases f1
    exact ⟨prs[i].1, List.getElem?_eq_getElem hil, f2⟩
  · have hm : (s.heap.objs.size == sysModules) = false := beq_eq_false_iff_ne.mpr (Nat.ne_of_gt I.big)
    have hlen : (mergeK [] kvs).length ≤ sizeLine := by
      refine Nat.le_trans (length_mergeK kvs []) ?_
      rw [List.length_nil, Nat.zero_add, rel.length, hl]
      exact hz
    have hk' : ∀ b o, s.heap.get? b = some o → h'.get? b = some o := fun b o e => hk b o (fun z => nomatch z) e
    exact ⟨.ref s.heap.objs.size, upd H s.heap.objs.size (.dK (mergeK [] kvs)), I.laid (t' := tk) hk' (Nat.le_refl _) (show ObjOk X.prog X.w _ _ _ (.dK (mergeK [] kvs)) from ⟨hlen, hm, merged [] prs, KV.merge rel .nil, hd'⟩), rfl, q _ (I.hok.fresh (Nat.le_refl _))⟩
end
end JD

/-! ## JDPlain -/
set_option Elab.async false
set_option linter.all false
set_option maxRecDepth 100000
set_option maxHeartbeats 2000000
/-! JD: a def that hands back a tuple as it was made; dicts of pairs in a slot; several targets; pop and append -/
namespace JD
open PySem PySem.Spec PyProof.Rows L2

def spX (K : PySem.W.Frag) (R : Says) (Px : V → Hp → Prop) : Sp := fun vs H Q _ => ∃ (P : Option Addr) (L0 : Addr → Prop) (as : List Ag) (π : Pot) (d : PyData) (π' : Pot),
  (∀ a, L0 a → H a ≠ none) ∧ (∀ p, P = some p → L0 p) ∧ potAt P π H ∧ AgAll K P (mask L0 H) vs as ∧ R π as d π' ∧ ∀ v H', Px v H' → Ext P H H' → potAt P π' H' → Dp K (mask L0 H') v d → Q v H'
structure FnX (G : Glb) (k : Nat) (f : Addr) (fd : FuncData) (ps : List Str) (R : Says) (Px : V → Hp → Prop) : Prop where
  len : ∀ π as d π', R π as d π' → as.length = ps.length
  run : ∀ (A : Around) (outer : List Env) (s : Shared) (H : Hp) (args : Args) (us : List Value) (vs : List V) (Q : VK), Room k A → A.guards = some [] → Env0 G.prog G.w G.K G.mg G.base A outer s H → BindsTo s fd args (ps.zip us) → Vals vs us → spX G.K R Px vs H Q E0 →
    codeAny (model G.prog G.w) A (.call (.ref f) args) (CR CX0 outer G.prog G.w H s Q E0) s
theorem FnX.mono {G : Glb} {j k : Nat} {f : Addr} {fd : FuncData} {ps : List Str} {R : Says} {Px : V → Hp → Prop} (F : FnX G j f fd ps R Px) (h : j ≤ k) : FnX G k f fd ps R Px := ⟨F.len, fun A outer s H args us vs Q hr => F.run A outer s H args us vs Q (hr.mono h)⟩
def toEndX (d : PyData) (π : Pot) (Px : V → Hp → Prop) : Cont := { nx := fun _ _ => False, rt := fun d' π' => d' = d ∧ π' = π, rx := Px }
theorem fnX {G : Glb} {k : Nat} {f : Addr} {fd : FuncData} {x qual : Str} {params : Arguments} {body : List Stmt} {scope : Scope} {N ps : List Str} {R : Says} {Px : V → Hp → Prop} (F : FunD G.K x qual params body scope [] [] f fd) (S : FnScope N ps scope) (len : ∀ π as d π', R π as d π' → as.length = ps.length)
    (hb : ∀ X, Cz G k N scope true X → ∀ π as d π', R π as d π' → ∃ ts, JSs G.K True X body ts (startR N as) π (toEndX d π' Px)) : FnX G (k + 1) f fd ps R Px := by
  refine ⟨len, fun A outer s H args us vs Q hr hg e0 hbind r hsp => ?_⟩
  obtain ⟨oc, od, dV, kV, doc, pm, an, cdv, ct, osl, rfl, lk, hcd, _, _⟩ := F.ex
  obtain ⟨P, L0, as, π, d, π', dm, pl, hp, ha, hR, hQ⟩ := hsp
  have hlv : vs.length = ps.length := by rw [ha.length]; exact len _ _ _ _ hR
  have hps : ps.length ≤ N.length := by have q := congrArg List.length S.pre; rw [List.length_take] at q; omega
  have KX : G.K.In s.heap := e0.mod.kin.keeps fun b o e => (e0.bs b o e).1
  have lim : s.heap.NoLimit := e0.mod.nolimit.keeps fun b o e => (e0.bs b o e).1
  have hkind : ∀ y ∈ ps.zip us, scope.names.lookup y.1 = some .local ∨ (scope.names.lookup y.1 = some .cell ∧ ((cellsFrom (s.heap.objs.size + 1) scope.names []).lookup y.1).isSome = true) := fun y hy => by
    rcases S.par y.1 (List.of_mem_zip (a := y.1) (b := y.2) hy).1 with q | q
    · exact .inl q
    · exact .inr ⟨q, PySem.W.cellsFrom_some _ _ _ (.inl q)⟩
  refine codeAny_call_function hr.depth (KX _ _ lk) rfl S.co S.gen rfl (PySem.W.codeRec_of KX hcd) (hbind _ _ _ _ ?_)
  refine wpAny_newFunctionEnv_cells S.kind hkind fun env he s1 x => ?_
  subst he
  refine ⟨lim.keeps x.toInCall.keep, codeAny_func ?_⟩
  let Y : Cx := (cxOf CX0 G.prog G.w G.K G.mg G.base N qual scope f cdv A outer s H E0).nox
  have cz : Cz G k N scope true Y := ⟨rfl, rfl, rfl, rfl, rfl, rfl, hg, hr.deeper _, rfl, S.nd, rfl, rfl, fun _ _ => rfl⟩
  obtain ⟨ts, J⟩ := hb Y cz π as d π' hR
  have I0 : Inv (cxOf CX0 G.prog G.w G.K G.mg G.base N qual scope f cdv A outer s H E0) [] (start N vs) H s1 := inv_start S hr.hd e0 hlv r x
  have I : Inv Y [] (start N vs) H s1 := I0.wish _
  have Rl := rel_start (N := N) dm pl hp ha (by rw [← ha.length, hlv]; exact hps)
  have body := J.pss.run [] s1 (start N vs) H { nx := fun _ H' => Q .non H', rt := Q } I (J.ev trivial _ H (start N vs) _ Rl (fun _ _ _ _ _ z => z.elim) (fun v d1 π1 H' ⟨e1, e2⟩ hx ex pt dp => by
    subst e1 e2
    exact hQ v H' hx ex pt dp) (fun _ _ _ _ _ z => z.elim) fun _ _ _ _ _ z => z.elim)
  refine wpAny_mono body (fun fl s' hs => ?_) fun e s' hs => hs.elim
  have fin : ∀ {σ' : L2.St} {H' : Hp} {v : V} {u : Value}, Inv Y [] σ' H' s' → RelV v u → Q v H' → CE outer G.prog G.w H s Q u s' := fun {σ' H' v u} J rv q => ⟨v, H', J.os, J.bare, J.base, J.hok, rv, q⟩
  cases fl with
  | ret u =>
    obtain ⟨v, σ', H', J, rv, q⟩ := hs
    exact fin J rv q
  | next =>
    obtain ⟨σ', H', J, q⟩ := hs
    exact fin (v := V.non) (u := Value.none) J rfl q
  | brk =>
    obtain ⟨_, _, _, q⟩ := hs
    exact False.elim q
  | cont =>
    obtain ⟨_, _, _, q⟩ := hs
    exact False.elim q

section
variable {G : Glb} {k : Nat} {N : List Str} {sc : Scope} {B : Bool} {X : Cx} {g : Prop} {ρ : List Sl} {π π1 π2 : Pot} {C : Cont} {e e1 e2 a b : Expr} {te ta tb : TE} {d d1 d2 : PyData} {ds es : List PyData} {pos : Pos}
theorem run_fnX {f : Addr} {fd : FuncData} {ps : List Str} {R : Says} {Px : V → Hp → Prop} {pins : List (Addr × Obj)} {σ : L2.St} {H : Hp} {s : Shared} {Q : VK} {us : List Value} {vs : List V} (c : Cz G k N sc B X) (F : FnX G k f fd ps R Px) (hb : Binds G.K fd ps []) (I : Inv X pins σ H s) (r : Vals vs us) (h : spX G.K R Px vs H Q E0) :
    wpAny (model X.prog X.w) X.A (call (.ref f) us) (EP X pins σ Q) X.xe s := by
  have hl : (us ++ []).length = ps.length := by
    obtain ⟨P, L0, as, π, d, π', _, _, _, ha, hR, _⟩ := h
    rw [List.append_nil, ← r.length, ha.length]
    exact F.len _ _ _ _ hR
  have e0 : Env0 G.prog G.w G.K G.mg G.base X.A X.stack s H := by
    have q := I.env0
    rw [c.prog, c.w, c.K, c.mg, c.base] at q
    exact q
  have bd := hb s us (by have q := I.kIn; rw [c.K] at q; exact q) hl
  rw [List.append_nil] at bd
  have go := F.run X.A X.stack s H ⟨us, []⟩ us vs Q c.room c.gd e0 bd r h
  rw [← c.prog, ← c.w] at go
  refine wpAny_call (codeAny_mono go fun r s' hq => ?_)
  cases r with
  | error e => exact False.elim hq
  | ok fl =>
    cases fl with
    | ret u => exact I.after hq
    | next => exact False.elim hq
    | brk => exact False.elim hq
    | cont => exact False.elim hq
theorem pe_callX {f : Addr} {fd : FuncData} {ps : List Str} {R : Says} {Px : V → Hp → Prop} {x : Str} {e : Expr} {es : List Expr} {p pos : Pos} {t : TA} (c : Cz G k N sc B X) (F : FnX G k f fd ps R Px) (hb : Binds G.K fd ps []) (hm : G.mg x = some (.ref f)) (hk : PySem.W.keepIn G.K (.ref f) = true) (ha : PA X (e :: es) t)
    (hg : sc.names.lookup x = some .globalImplicit := by rfl) (hdb : (x == ("__debug__" : Str)) = false := by decide) (he : starEach (e :: es) X.env = (false, eval e X.env) :: starEach es X.env := by rfl) (hpl : (backTo pos (starEach es X.env)).any (·.1) = false := by rfl) :
    PE X (.Call (.Name x p) (e :: es) [] pos) (tCall (spX G.K R Px) [] E0 t) := by
  refine ⟨fun pins s σ H Q I h => ?_⟩
  refine wpAny_Call_Name_kw (ld_glob I (c.gl hg) (c.ss hm) ?_ hdb)
  refine PySem.W.callWith_K (h₀ := X.base) I.ok.mod.kin (by rw [c.K]; exact hk) (thn (ha.run pos pins s σ H _ I h) fun us s1 ⟨vs, H1, I1, r, q⟩ => ⟨I1.kIn, ?_⟩) he hpl
  have q : spX G.K R Px (vs ++ []) H1 Q E0 := q
  rw [List.append_nil] at q
  exact run_fnX c F hb I1 r q
structure DfX (G : Glb) (k : Nat) (x : Str) (ps : List Str) (R : Says) (Px : V → Hp → Prop) : Prop where
  ok : ∃ (f : Addr) (fd : FuncData), FnX G k f fd ps R Px ∧ Binds G.K fd ps [] ∧ G.mg x = some (.ref f) ∧ PySem.W.keepIn G.K (.ref f) = true
theorem DfX.mono {j : Nat} {x : Str} {ps : List Str} {R : Says} {Px : V → Hp → Prop} (D : DfX G j x ps R Px) (h : j ≤ k) : DfX G k x ps R Px := by
  obtain ⟨f, fd, F, a, b, c⟩ := D.ok
  exact ⟨f, fd, F.mono h, a, b, c⟩
theorem FnX.toG {f : Addr} {fd : FuncData} {ps : List Str} {R : Says} {Px : V → Hp → Prop} (F : FnX G k f fd ps R Px) : FnG G k f fd ps R := ⟨F.len, fun A outer s H args us vs Q hr hg e0 hb r ⟨P, L0, as, π, d, π', h1, h2, h3, h4, h5, h6⟩ => F.run A outer s H args us vs Q hr hg e0 hb r ⟨P, L0, as, π, d, π', h1, h2, h3, h4, h5, fun v H' _ => h6 v H'⟩⟩
theorem DfX.toG {x : Str} {ps : List Str} {R : Says} {Px : V → Hp → Prop} (D : DfX G k x ps R Px) : Df G k x ps R := by
  obtain ⟨f, fd, F, a, b, c⟩ := D.ok
  exact ⟨f, fd, F.toG, a, b, c⟩
theorem mkDfX {x : Str} {st : Stmt} {ps : List Str} {R : Says} {Px : V → Hp → Prop} (A : At G x st) (Sc : FnScope N ps (defScope st)) (len : ∀ π as d π', R π as d π' → as.length = ps.length)
    (bd : ∀ (kV doc pm : Value) (an : Option Addr) (cdv ct : Value) (us : List Value), us.length = ps.length → bindArgs (PySem.W.fnOf x x (defArgs st) (defBody st) (defScope st) .none kV doc pm an cdv ct) ⟨us, []⟩ = pure (ps.zip us))
    (hb : ∀ X, Cz G k N (defScope st) true X → ∀ π as d π', R π as d π' → ∃ ts, JSs G.K True X (defBody st) ts (startR N as) π (toEndX d π' Px)) : DfX G (k + 1) x ps R Px := by
  obtain ⟨f, fd, F, hm⟩ := A
  exact ⟨f, fd, fnX F Sc len hb, F.bindsN bd, hm, F.kp⟩
/-- return tuple([..]) -/
theorem js_retPl (c : Cz G k N sc B X) {p cpos : Pos} (he : JL G.K g X e te ρ π ds π1) (hm : G.mg "tuple" = none) (kk : g → C.rt (.tuple ds) π1) (hx : ∀ v H, PlainT v H → C.rx v H) (hg : sc.names.lookup ("tuple" : Str) = some .globalImplicit := by rfl)
    (hs : starEach (e :: []) X.env = (false, eval e X.env) :: starEach [] X.env := by rfl) (hpl : (backTo cpos (starEach [] X.env)).any (·.1) = false := by rfl) :
    JS G.K g X (.Return (some (.Call (.Name "tuple" p) [e] [] cpos)) pos) (tRet (tCB (rTupPl G.K) (tCons te tNil))) ρ π C :=
  ⟨ps_ret (pe_callTy (toK (P := fun K => CallR X (.type "tuple") (rTupPl K)) c call_tupPl) (c.gl hg) (c.nn hm) (by decide +kernel) (pa_cons he.pe pa_nil hs) (by decide) (by decide) hs hpl), fun q w H σ D R n r b t =>
    he.ev q w H σ R _ fun p xs H1 e1 p1 hn hp ha => by
      have R1 := R.step e1 p1
      refine ⟨p, xs, rfl, .inl (.inl hp), fun l o hl ho => ?_⟩
      have hl0 : H l = none := e1.fresh p1 hl
      have nl : ¬ w.L0 l := fun z => R.domL l z hl0
      have e2 : Ext w.P H1 (upd H1 l (.frz o (.tup xs))) := .new hl
      refine r _ _ π1 _ (kk q) (hx _ _ ⟨l, o, _, rfl, upd_same, ho⟩) (R.ext.trans (e1.trans e2)) (p1.same (Same.new hl)) (.tup (.inl (.inr ⟨o, ?_⟩)) (DpAll.up ?_ _ ha))
      · rw [mask_out nl]; exact upd_same
      · exact mask_mono fun a u nn h => ⟨fun m => nn (.inl (.inl m)), by rw [upd_ne (ne_of_none h hl)]; exact h⟩⟩
/-! ### dicts of pairs of numbers in a slot -/
def EvK (te : TE) (ρ : List Sl) (π : Pot) (kvs : List (Key × V)) (π' : Pot) : Prop := ∀ (w : Wd) (H : Hp) (σ : L2.St), Rel G.K w ρ π H σ → ∀ Q : VK,
  (∀ p H', Ext w.P H H' → potAt w.P π' H' → H p = none → H' p = some (.dK kvs) → Q (.ref p) H') → te σ H Q
end
section
variable {G : Glb} {ρ : List Sl} {π π1 : Pot} {C : Cont} {te : TE}
theorem es_asgD {i : Nat} {kvs0 : List (Key × V)} (hi : i < ρ.length) (h : EvK (G := G) te ρ π kvs0 π1) (k : C.nx (ρ.set i (.dic kvs0)) π1) : EvS G.K (tAsg te (gName i)) ρ π C := fun w H σ D R n r b t =>
  h w H σ R _ fun p H1 e1 p1 hn hp => by
    have R1 := R.step e1 p1
    have hi' : i < (ρ.set i .un).length := by rw [List.length_set]; exact hi
    have nm : ¬ w.M (ρ.set i .un) p := fun m => R.domH (M_set_le nU m) hn
    have h0 : w.H0 p = none := by
      cases q : w.H0 p with
      | none => rfl
      | some o =>
        by_cases c : w.P = some p
        · have z := R.pot p c
          rw [hn] at z; cases z
        · have z := R.ext p o c q
          rw [hn] at z; cases z
    -- what is told in H1 is told beside p too
    have R2 : Rel G.K w ρ π1 (fun a => if a = p then none else H1 a) σ := R.step (fun b o c eb => by
      have z : b ≠ p := fun z => by rw [z, hn] at eb; cases eb
      show (if b = p then none else H1 b) = some o
      rw [if_neg z]; exact e1 b o c eb) (fun q eq => by
      have z : q ≠ p := fun z => by
        have y := R.pot q eq
        rw [z, hn] at y; cases y
      show (if q = p then none else H1 q) = _
      rw [if_neg z]; exact p1 q eq)
    have W1 := R1.wipe1 (i := i) (x := some (V.ref p))
    have W2 := R2.wipe1 (i := i) (x := some (V.ref p))
    have up : Same (mask (w.M (ρ.set i .un)) (fun a => if a = p then none else H1 a)) (mask ((w.at i p).M (ρ.set i (.dic kvs0))) H1) := fun b o eb => by
      obtain ⟨nb, eb⟩ := mask_some eb
      by_cases z : b = p
      · rw [if_pos z] at eb; cases eb
      · rw [if_neg z] at eb
        rw [mask_out (fun m => by
          rcases (M_at (s := .dic kvs0) hi trivial).mp m with y | y
          · exact z y
          · exact nb y)]
        exact eb
    refine n (w.at i p).ad _ _ _ _ k ?_
    show Rel G.K (w.at i p) (ρ.set i (.dic kvs0)) π1 H1 (σ.set i (some (.ref p)))
    have get : ∀ {j : Nat} {t : Sl}, (ρ.set i (.dic kvs0))[j]? = some t → (i = j ∧ t = .dic kvs0) ∨ (i ≠ j ∧ (ρ.set i .un)[j]? = some t) := fun {j t} h => by
      by_cases c : i = j
      · subst c; exact .inl ⟨rfl, get_set_some h⟩
      · rw [List.getElem?_set_ne c] at h
        exact .inr ⟨c, by rw [List.getElem?_set_ne c]; exact h⟩
    have own : ∀ {j : Nat}, i ≠ j → ownAt (ρ.set i (.dic kvs0)) j → ownAt (ρ.set i .un) j := fun c h => (h.of_set_ne c).set_ne c
    have hiσ : i < σ.length := by rw [R.len]; exact hi
    refine ⟨W1.len.trans (by rw [List.length_set, List.length_set]), R.potL, p1, R1.ext, R1.domL, fun j h => ?_, fun j h => ?_, fun j l hj hl e => ?_, fun j d h => ?_, fun j es h => ?_, fun j kvs h => ?_, fun j h => ?_⟩
    · by_cases c : i = j
      · subst c; rw [Wd.at_self]; exact fun z => nm (.inl z)
      · rw [Wd.at_ne (Ne.symm c)]; exact W1.disj j (own c h)
    · by_cases c : i = j
      · subst c; rw [Wd.at_self]; exact h0
      · rw [Wd.at_ne (Ne.symm c)]; exact W1.own0 j (own c h)
    · by_cases c : i = j
      · by_cases c' : i = l
        · exact c.symm.trans c'
        · rw [← c, Wd.at_self, Wd.at_ne (Ne.symm c')] at e
          exact absurd (.inr ⟨l, own c' hl, e⟩) nm
      · by_cases c' : i = l
        · rw [← c', Wd.at_self, Wd.at_ne (Ne.symm c)] at e
          exact absurd (.inr ⟨j, own c hj, e.symm⟩) nm
        · rw [Wd.at_ne (Ne.symm c), Wd.at_ne (Ne.symm c')] at e
          exact W1.inj j l (own c hj) (own c' hl) e
    · rcases get h with ⟨c, q⟩ | ⟨c, q⟩
      · cases q
      · obtain ⟨v, h1, h2⟩ := W2.vals j d q
        exact ⟨v, h1, Dp.up up _ h2⟩
    · rcases get h with ⟨c, q⟩ | ⟨c, q⟩
      · cases q
      · obtain ⟨ys, h1, h2, h3⟩ := W2.owns j es q
        by_cases z : w.ad j = p
        · rw [if_pos z] at h2; cases h2
        · rw [if_neg z] at h2
          exact ⟨ys, by rw [Wd.at_ne (Ne.symm c)]; exact h1, by rw [Wd.at_ne (Ne.symm c)]; exact h2, DpAll.up up _ h3⟩
    · rcases get h with ⟨c, q⟩ | ⟨c, q⟩
      · subst c
        cases q
        exact ⟨by rw [Wd.at_self]; exact List.getElem?_set_self hiσ, by rw [Wd.at_self]; exact hp⟩
      · obtain ⟨h1, h2⟩ := W1.dics j kvs q
        exact ⟨by rw [Wd.at_ne (Ne.symm c)]; exact h1, by rw [Wd.at_ne (Ne.symm c)]; exact h2⟩
    · rcases get h with ⟨c, q⟩ | ⟨c, q⟩
      · cases q
      · exact W1.pots j q
end
section
variable {G : Glb} {k : Nat} {N : List Str} {sc : Scope} {B : Bool} {X : Cx} {g : Prop} {ρ : List Sl} {π π1 π2 : Pot} {C : Cont} {e e1 e2 a b : Expr} {te ta tb : TE} {d d1 d2 : PyData} {ds es : List PyData} {pos : Pos}
def pairD (xy : Int × Int) : PyData := .tuple [.int xy.1, .int xy.2]
def pairK (xy : Int × Int) : Key × V := (.inl xy.1, .int xy.2)
theorem pairs_D {K : PySem.W.Frag} {H : Hp} : ∀ {ps : List (Int × Int)} {vs : List V}, DpAll K H vs (ps.map pairD) → ∃ as : List Addr, vs = as.map V.ref ∧ Paired (fun p (kv : Key × V) => SqT K H p [kV kv.1, kv.2]) as (ps.map pairK)
  | [], _, h => by cases h; exact ⟨[], rfl, .nil⟩
  | (i, j) :: ps, _, h => by
    cases h with
    | cons x y =>
      obtain ⟨as, e, hp⟩ := pairs_D y
      have x' : Dp K H _ (.tuple [.int i, .int j]) := x
      cases x' with
      | @tup a _ _ h1 h2 =>
        obtain ⟨v, w, rfl, hv, hw⟩ := all2 h2
        cases hv; cases hw
        exact ⟨a :: as, by rw [e]; rfl, .cons h1 hp⟩
theorem Paired.up {K : PySem.W.Frag} {H H' : Hp} (s : Same H H') : ∀ {as : List Addr} {kvs : List (Key × V)}, Paired (fun p (kv : Key × V) => SqT K H p [kV kv.1, kv.2]) as kvs → Paired (fun p (kv : Key × V) => SqT K H' p [kV kv.1, kv.2]) as kvs
  | _, _, .nil => .nil
  | _, _, .cons h t => .cons (SqT.up s h) (Paired.up s t)
/-- x = dict(f(..)), f a def that hands back its tuple of pairs of numbers as it made it -/
theorem js_asgDict (c : Cz G k N sc B X) (i : Nat) {x f : Str} {ps : List Str} {R : Says} {pos' p p2 cpos : Pos} {as : List Ag} {e : Expr} {es : List Expr} {t : TA} {prs : List (Int × Int)} {fpos : Pos} (D : DfX G k f ps R PlainT) (ha : JA G.K g X (e :: es) t ρ π as π1) (hR : g → R π1 as (.tuple (prs.map pairD)) π2) (hm : G.mg "dict" = none)
    (hi : i < ρ.length := by exact Nat.le_of_ble_eq_true rfl) (kk : g → C.nx (ρ.set i (.dic (mergeK [] (prs.map pairK)))) π2 := by exact fun _ => ⟨rfl, rfl⟩) (hN : N[i]? = some x := by rfl) (hx : sc.names.lookup x = some .local ∨ (B = true ∧ sc.names.lookup x = some .cell) := by first | exact .inl rfl | exact .inr ⟨rfl, rfl⟩)
    (hg : sc.names.lookup f = some .globalImplicit := by rfl) (hgd : sc.names.lookup ("dict" : Str) = some .globalImplicit := by rfl) (hdb : (f == ("__debug__" : Str)) = false := by decide) (he : starEach (e :: es) X.env = (false, eval e X.env) :: starEach es X.env := by rfl) (hpl : (backTo fpos (starEach es X.env)).any (·.1) = false := by rfl)
    (he2 : starEach (.Call (.Name f p2) (e :: es) [] fpos :: []) X.env = (false, eval (.Call (.Name f p2) (e :: es) [] fpos) X.env) :: starEach [] X.env := by rfl) (hpl2 : (backTo cpos (starEach [] X.env)).any (·.1) = false := by rfl)
    (hs : swapsWith (.Call (.Name "dict" p) [.Call (.Name f p2) (e :: es) [] fpos] [] cpos) (some (.Name x pos')) pos.line X.env = pure false := by rfl) :
    JS G.K g X (.Assign [.Name x pos'] (.Call (.Name "dict" p) [.Call (.Name f p2) (e :: es) [] fpos] [] cpos) pos) (tAsg (tCB (rDictPl G.K) (tCons (tCall (spX G.K R PlainT) [] E0 t) tNil)) (gName i)) ρ π C := by
  obtain ⟨fa, fd, F, hb, hmf, hk⟩ := D.ok
  refine ⟨ps_setG c i (pe_callTy (toK (P := fun K => CallR X (.type "dict") (rDictPl K)) c (call_dictPl c.calm)) (c.gl hgd) (c.nn hm) (by decide +kernel) (pa_cons (pe_callX c F hb hmf hk ha.pa hg hdb he hpl) pa_nil he2) (by decide) (by decide) he2 hpl2) hN hx hs, fun q => es_asgD hi (fun w H σ Rl Q qq => ?_) (kk q)⟩
  refine ha.ev q w H σ Rl _ fun vs H1 e1 p1 q1 => ?_
  have R1 := Rl.step e1 p1
  show spX G.K R PlainT (vs ++ []) H1 _ E0
  rw [List.append_nil]
  refine ⟨w.P, w.M ρ, as, π1, _, π2, fun a m => R1.domH m, fun p e => R1.potM e, p1, q1, hR q, fun v H' ⟨a, o, u, ev, hfz, ho⟩ e2 p2 h => ?_⟩
  subst ev
  cases h with
  | @tup _ xs _ h1 h2 =>
    obtain ⟨as2, ex, hp⟩ := pairs_D h2
    subst ex
    exact ⟨a, o, u, as2, _, rfl, hfz, ho, SqT.up (mask_same _ _) h1, Paired.up (mask_same _ _) hp, fun l hl => qq l _ ((e1.trans e2).trans (.new hl)) (p2.same (Same.new hl)) (e1.fresh p1 (e2.fresh p2 hl)) upd_same⟩
/-- d[k] -/
theorem je_dget (c : Cz G k N sc B X) (i : Nat) {x : Str} {p : Pos} {z v : Int} {kvs : List (Key × V)} (hb : JE G.K g X b tb ρ π (.int z) π1) (hd : g → valV kvs (.inl z) = some (.int v)) (h : ρ[i]? = some (.dic kvs) := by rfl) (hN : N[i]? = some x := by rfl) (hv : Vis sc x := by first | exact Or.inl rfl | exact Or.inr (Or.inl rfl) | exact Or.inr (Or.inr rfl)) (hdb : (x == ("__debug__" : Str)) = false := by decide) (hcd : (x == ("__classdict__" : Str)) = false := by decide) (hs : NoSl b := by exact fun _ _ => rfl) :
    JE G.K g X (.Subscript (.Name x p) b pos) (tDGet (tVar i) tb) ρ π (.int v) π1 :=
  ⟨pe_dget (by have := c.room.un; omega) (pvG c i hN hv hdb hcd) hb.pe hs, fun q w H σ R Q qq => by
    obtain ⟨h1, h2⟩ := R.dics i kvs h
    refine ⟨_, h1, (hb.ev q) w H σ R _ fun y H1 e1 p1 q1 => ?_⟩
    cases q1
    have R1 := R.step e1 p1
    obtain ⟨g1, g2⟩ := R1.dics i kvs h
    exact ⟨_, .int v, rfl, .inl ⟨kvs, .inl z, .inl g2, rfl, (hd q).symm⟩, qq _ H1 e1 p1 (.int v)⟩⟩
/-- sorted(d), the keys numbers in order -/
theorem jl_sortedDic (c : Cz G k N sc B X) (i : Nat) {x : Str} {p p2 : Pos} {kvs : List (Key × V)} {ks : List Int} (hm : G.mg "sorted" = none) (hks : g → kvs.map (·.1) = ks.map Sum.inl ∧ ks.length < 64 ∧ ks.Pairwise (· ≤ ·)) (h : ρ[i]? = some (.dic kvs) := by rfl) (hN : N[i]? = some x := by rfl) (hv : Vis sc x := by first | exact Or.inl rfl | exact Or.inr (Or.inl rfl) | exact Or.inr (Or.inr rfl)) (hdb : (x == ("__debug__" : Str)) = false := by decide) (hcd : (x == ("__classdict__" : Str)) = false := by decide)
    (hg : sc.names.lookup ("sorted" : Str) = some .globalImplicit := by rfl) (hs : starEach (.Name x p2 :: []) X.env = (false, eval (.Name x p2) X.env) :: starEach [] X.env := by rfl) (hpl : (backTo pos (starEach [] X.env)).any (·.1) = false := by rfl) :
    JL G.K g X (.Call (.Name "sorted" p) [.Name x p2] [] pos) (tCB (fun xs H Q => ∃ (a : Addr) (kvs : List (Key × V)) (ks : List Int), xs = [.ref a] ∧ Rd H a (.dK kvs) ∧ kvs.map (·.1) = ks.map Sum.inl ∧ ks.length < 64 ∧
    ∀ (ys : List Int) (p : Addr), ys.Perm ks → ys.Pairwise (· ≤ ·) → H p = none → Q (.ref p) (upd H p (.lst (ys.map V.int)))) (tCons (tVar i) tNil)) ρ π (ks.map .int) π :=
  ⟨pe_callB (call_sortedDI c.calm) (c.gl hg) (c.nn hm) (by decide +kernel) (pa_cons (pvG c i hN hv hdb hcd) pa_nil hs) (by decide) (by decide) hs hpl, fun q w H σ R Q qq => by
    obtain ⟨h1, h2⟩ := R.dics i kvs h
    obtain ⟨k1, k2, k3⟩ := hks q
    refine ⟨_, h1, _, kvs, ks, rfl, .inl h2, k1, k2, fun ys l hp hw hl => ?_⟩
    have e : ys = ks := List.Perm.eq_of_pairwise (le := fun a b => a ≤ b) (fun a b _ _ x y => Int.le_antisymm x y) hw k3 hp
    rw [e]
    exact qq l _ _ (.new hl) (R.pot.same (Same.new hl)) hl upd_same (DpAll.ofInts _)⟩
/-! ### own.append(other.pop(z)) -/
theorem js_appendPop (c : Cz G k N sc B X) (i l : Nat) {x y : Str} {p p2 apos apos2 cpos cpos2 : Pos} {z : Int} {j : Nat} (he : JE G.K g X e te ρ π (.int z) π1) (hb : g → -(2 ^ 63) ≤ z ∧ z < 2 ^ 63) (hj : g → seqIndex? z es.length = some j ∧ es[j]? = some d) (hz : g → ds.length < sizeLine) (h : ρ[i]? = some (.own ds) := by rfl) (h' : ρ[l]? = some (.own es) := by rfl) (hil : i ≠ l := by decide)
    (kk : g → C.nx ((ρ.set l (.own (es.eraseIdx j))).set i (.own (ds ++ [d]))) π1 := by exact fun _ => ⟨rfl, rfl⟩) (hN : N[i]? = some x := by rfl) (hv : Vis sc x := by first | exact Or.inl rfl | exact Or.inr (Or.inl rfl) | exact Or.inr (Or.inr rfl)) (hN2 : N[l]? = some y := by rfl) (hv2 : Vis sc y := by first | exact Or.inl rfl | exact Or.inr (Or.inl rfl) | exact Or.inr (Or.inr rfl))
    (hd : (x == ("__debug__" : Str)) = false := by decide) (hcd : (x == ("__classdict__" : Str)) = false := by decide) (hd2 : (y == ("__debug__" : Str)) = false := by decide) (hcd2 : (y == ("__classdict__" : Str)) = false := by decide)
    (hbase : attributeBase (.Name x p) "append" X.env (eval (.Name x p) X.env) = eval (.Name x p) X.env := by rfl) (hbase2 : attributeBase (.Name y p2) "pop" X.env (eval (.Name y p2) X.env) = eval (.Name y p2) X.env := by rfl)
    (hfew2 : ((backTo cpos2 (starEach (e :: []) X.env)).all (fun x => !x.1) && (backToKw cpos2 (keywordEach [] X.env)).all (fun x => x.1.isSome) && decide ((e :: []).length + ([] : List Keyword).length + (if ([] : List Keyword).isEmpty then 0 else 1) < 30)) = true := by rfl)
    (hfew : ((backTo cpos (starEach (.Call (.Attribute (.Name y p2) "pop" apos2) [e] [] cpos2 :: []) X.env)).all (fun x => !x.1) && (backToKw cpos (keywordEach [] X.env)).all (fun x => x.1.isSome) && decide ((e :: []).length + ([] : List Keyword).length + (if ([] : List Keyword).isEmpty then 0 else 1) < 30)) = true := by rfl)
    (hline : (apos.endLine == cpos.line) = true := by rfl) (hline2 : (apos2.endLine == cpos2.line) = true := by rfl) (hs2 : starEach (e :: []) X.env = (false, eval e X.env) :: starEach [] X.env := by rfl) (hplain2 : (backTo cpos2 (starEach [] X.env)).any (·.1) = false := by rfl)
    (hs : starEach (.Call (.Attribute (.Name y p2) "pop" apos2) [e] [] cpos2 :: []) X.env = (false, eval (.Call (.Attribute (.Name y p2) "pop" apos2) [e] [] cpos2) X.env) :: starEach [] X.env := by rfl) (hplain : (backTo cpos (starEach [] X.env)).any (·.1) = false := by rfl)
    (hsw : swapsWith (.Call (.Attribute (.Name x p) "append" apos) [.Call (.Attribute (.Name y p2) "pop" apos2) [e] [] cpos2] [] cpos) none pos.line X.env = pure false := by rfl) :
    JS G.K g X (.Expr (.Call (.Attribute (.Name x p) "append" apos) [.Call (.Attribute (.Name y p2) "pop" apos2) [e] [] cpos2] [] cpos) pos) (tDrop (tBM G.K "list" rAppend (tVar i) (tCons (tBM G.K "list" rPopAt (tVar l) (tCons te tNil)) tNil))) ρ π C :=
  ⟨toK (P := fun K => PS X (.Expr (.Call (.Attribute (.Name x p) "append" apos) [.Call (.Attribute (.Name y p2) "pop" apos2) [e] [] cpos2] [] cpos) pos) (tDrop (tBM K "list" rAppend (tVar i) (tCons (tBM K "list" rPopAt (tVar l) (tCons te tNil)) tNil)))) c
    (ps_expr (pe_bm PySem.F.plainAttrs_list PySem.F.slot_list_append PySem.F.type_list_append mt_append (pvG c i hN hv hd hcd) (pa_cons (pe_bm PySem.F.plainAttrs_list PySem.F.slot_list_pop PySem.F.type_list_pop mt_popAt (pvG c l hN2 hv2 hd2 hcd2) (pa_cons he.pe pa_nil hs2) hbase2 hfew2 hline2 hs2 hplain2) pa_nil hs) hbase hfew hline hs hplain) hsw),
   fun q => es_appendPop hil h h' (hz q) (he.ev q) (hb q) (hj q).1 (hj q).2 (kk q)⟩
end
end JD

/-! ## JDLc -/
set_option Elab.async false
set_option linter.all false
set_option maxRecDepth 100000
set_option maxHeartbeats 2000000
/-! JD: comprehensions over pairs; comprehensions that draw; targets of two names -/
namespace JD
open PySem PySem.Spec PyProof.Rows L2
section
variable {G : Glb} {k : Nat} {N : List Str} {sc : Scope} {B : Bool} {X : Cx} {g : Prop} {ρ : List Sl} {π π1 π2 : Pot} {elt iter : Expr} {scope : Scope} {wi : TI} {tt : TT} {te : TE} {pos : Pos}
theorem pg2G (c : Cz G k N sc B X) (i j : Nat) {x y : Str} {px py pt : Pos} {kt} (hi : N[i]? = some x := by rfl) (hj : N[j]? = some y := by rfl)
    (hx : sc.names.lookup x = some .local ∨ (B = true ∧ sc.names.lookup x = some .cell) := by first | exact .inl rfl | exact .inr ⟨rfl, rfl⟩) (hy : sc.names.lookup y = some .local ∨ (B = true ∧ sc.names.lookup y = some .cell) := by first | exact .inl rfl | exact .inr ⟨rfl, rfl⟩) :
    PG X (.Tuple [.Name x px, .Name y py] kt pt) (gTup G.K 2 (gCons (gName i) (gCons (gName j) gNil))) := by
  have q := pg_tup (X := X) (pos := pt) (k := kt) (es := [.Name x px, .Name y py]) c.calm (pgs_cons (pg_nameG c i hi hx) (pgs_cons (pg_nameG c j hj hy) pgs_nil))
  rw [c.K] at q
  exact q
theorem own_un {j : Nat} {s : Sl} (hv : ρ[j]? = some .un) {i : Nat} (h : ownAt ρ i) : ownAt (ρ.set j s) i := by
  by_cases e : j = i
  · subst e
    obtain ⟨s, h1, h2⟩ := h
    rw [hv] at h1; cases h1; exact h2.elim
  · exact h.set_ne e
/-- by two names, one test, no pot -/
theorem jlc_filter2 (c : Cz G k N sc B X) {n : Nat} {d1 d2 : Nat → PyData} {b : Nat → Bool} {out : Nat → PyData} {x y : Str} {xp yp pt : Pos} {kt} {j l : Nat} {cnd : Expr} (hi : JI G.K g X (.Tuple [.Name x xp, .Name y yp] kt pt) iter wi ρ π n (fun i => .tuple [d1 i, d2 i]) π1) (hn : g → n ≤ 16000000)
    (ht : ∀ Y, Cz G k N (relS scope sc) false Y → ∀ i, JT G.K (g ∧ i < n) Y cnd tt ((ρ.set j (.val (d1 i))).set l (.val (d2 i))) π1 (b i) π1)
    (he : ∀ Y, Cz G k N (relS scope sc) false Y → ∀ i, JE G.K ((g ∧ i < n) ∧ b i = true) Y elt te ((ρ.set j (.val (d1 i))).set l (.val (d2 i))) π1 (out i) π1) (hjl : j ≠ l := by decide) (hv : ρ[j]? = some .un := by rfl) (hv2 : ρ[l]? = some .un := by rfl) (hx : N[j]? = some x := by rfl) (hy : N[l]? = some y := by rfl)
    (hl : (relS scope sc).names.lookup x = some .local := by rfl) (hl2 : (relS scope sc).names.lookup y = some .local := by rfl) (ok : blkC N sc scope [(x, j), (y, l)] = true := by decide +kernel) :
    JLc G.K g X elt (.Tuple [.Name x xp, .Name y yp] kt pt) iter [cnd] scope [(x, j), (y, l)] wi (gTup G.K 2 (gCons (gName j) (gCons (gName l) gNil))) tt te ρ π (given n b out) π1 :=
  jlc (ifs := [cnd]) (gT := gTup G.K 2 (gCons (gName j) (gCons (gName l) gNil))) (tt := tt) (own := [(x, j), (y, l)]) (b := b) (πs := fun _ => π1) (πm := fun _ => π1) (ρi := fun i => (ρ.set j (.val (d1 i))).set l (.val (d2 i))) (out := out) (te := te) (elt := elt) (scope := scope) c hi rfl hn
    (fun Y cY => pg2G cY j l hx hy (.inl hl) (.inl hl2)) (wg_tup2 (by simp) (by simp)) (fun j' h' => by
      have e : j' = j ∨ j' = l := by simpa using h'
      rcases e with e | e
      · subst e; exact .inl hv
      · subst e; exact .inl hv2) (fun i j' h' => own_un (by rw [List.getElem?_set_ne hjl]; exact hv2) (own_un hv h')) (fun i _ _ => eg_tup2) (fun Y cY i => jts_one (ht Y cY i)) he (fun i _ _ _ => rfl) ok
/-- by a name, no test; each turn may draw -/
theorem jlc_pot (c : Cz G k N sc B X) {n : Nat} {it : Nat → PyData} {out : Nat → PyData} {πs : Nat → Pot} {x : Str} {xp : Pos} {j : Nat} (hi : JI G.K g X (.Name x xp) iter wi ρ π n it π1) (hn : g → n ≤ 16000000) (h0 : πs 0 = π1)
    (he : ∀ Y, Cz G k N (relS scope sc) false Y → ∀ i, JE G.K (g ∧ i < n) Y elt te (ρ.set j (.val (it i))) (πs i) (out i) (πs (i + 1))) (hv : ρ[j]? = some .un := by rfl) (hx : N[j]? = some x := by rfl) (hl : (relS scope sc).names.lookup x = some .local := by rfl) (ok : blkC N sc scope [(x, j)] = true := by decide +kernel) :
    JLc G.K g X elt (.Name x xp) iter [] scope [(x, j)] wi (gName j) tYes te ρ π ((List.range n).map out) (πs n) := by
  have q := jlc (ifs := []) (gT := gName j) (tt := tYes) (own := [(x, j)]) (b := fun _ => true) (πs := πs) (πm := πs) (ρi := fun i => ρ.set j (.val (it i))) (out := out) (te := te) (elt := elt) (scope := scope) c hi h0 hn (fun Y cY => pg_nameG cY j hx (.inl hl)) (wg_name (by simp)) (fun j' h' => by
      have e : j' = j := by simpa using h'
      subst e; exact .inl hv) (fun i j' h' => own_un hv h') (fun i _ _ => eg_name) (fun Y cY i => jts_nil) (fun Y cY i => ⟨(he Y cY i).pe, fun q => (he Y cY i).ev q.1⟩) (fun i _ _ z => nomatch z) ok
  exact q.is fun _ => given_all n out
end
section
variable {G : Glb} {k : Nat} {N : List Str} {sc : Scope} {B : Bool} {X : Cx} {g : Prop} {ρ : List Sl} {π π1 π2 : Pot} {tg e : Expr} {te : TE} {tpos pos p : Pos} {elts : List Expr} {kk : Nat}
theorem rgD_getD {n : Nat} {f : Nat → PyData} {i : Nat} (h : i < n) : ((List.range n).map f).getD i .none = f i := by
  rw [List.getD_eq_getElem?_getD, List.getElem?_map, List.getElem?_range h]; rfl
theorem ji_tupR {n : Nat} {f : Nat → PyData} (h : JE G.K g X e te ρ π (.tuple ((List.range n).map f)) π1) (c : Cz G k N sc B X) : JI G.K g X tg e (iTup G.K te) ρ π n f π1 :=
  (ji_tup h c).is (fun _ => by rw [List.length_map, List.length_range]) fun _ i hi => by
    rw [List.length_map, List.length_range] at hi
    exact rgD_getD hi
theorem ji_listR {n : Nat} {f : Nat → PyData} (h : JE G.K g X e te ρ π (.list ((List.range n).map f)) π1) (c : Cz G k N sc B X) : JI G.K g X tg e (iList G.K te) ρ π n f π1 :=
  (ji_list h c).is (fun _ => by rw [List.length_map, List.length_range]) fun _ i hi => by
    rw [List.length_map, List.length_range] at hi
    exact rgD_getD hi
theorem ji_enumTR (c : Cz G k N sc B X) {n : Nat} {f : Nat → PyData} (h : JE G.K g X e te ρ π (.tuple ((List.range n).map f)) π1) (hm : G.mg "enumerate" = none) (hg : sc.names.lookup ("enumerate" : Str) = some .globalImplicit := by rfl) (hs : starEach [e] X.env = [(false, eval e X.env)] := by rfl) :
    JI G.K g X (.Tuple elts kk tpos) (.Call (.Name "enumerate" p) [e] [] pos) (iEnumT G.K (tCons te tNil)) ρ π n (fun i => .tuple [.int (i : Int), f i]) π1 :=
  (ji_enumT c h hm hg hs).is (fun _ => by rw [List.length_map, List.length_range]) fun _ i hi => by
    rw [List.length_map, List.length_range] at hi
    show PyData.tuple [.int (i : Int), _] = _
    rw [rgD_getD hi]
theorem ji_enumLR (c : Cz G k N sc B X) {n : Nat} {f : Nat → PyData} (h : JE G.K g X e te ρ π (.list ((List.range n).map f)) π1) (hm : G.mg "enumerate" = none) (hg : sc.names.lookup ("enumerate" : Str) = some .globalImplicit := by rfl) (hs : starEach [e] X.env = [(false, eval e X.env)] := by rfl) :
    JI G.K g X (.Tuple elts kk tpos) (.Call (.Name "enumerate" p) [e] [] pos) (iEnum G.K (tCons te tNil)) ρ π n (fun i => .tuple [.int (i : Int), f i]) π1 :=
  (ji_enumL c h hm hg hs).is (fun _ => by rw [List.length_map, List.length_range]) fun _ i hi => by
    rw [List.length_map, List.length_range] at hi
    show PyData.tuple [.int (i : Int), _] = _
    rw [rgD_getD hi]
theorem own_last {n : Nat} {f : Nat → PyData} : atI ((List.range (n + 1)).map f) (-1) = some (f n) := at_neg (by rw [List.getLast?_map, List.getLast?_range]; rfl)
theorem own_at {n : Nat} {f : Nat → PyData} {z : Int} {i : Nat} (e : z = (i : Int)) (h : i < n) : atI ((List.range n).map f) z = some (f i) := at_nat e (by rw [List.getElem?_map, List.getElem?_range h]; rfl)
/-- if t: x = v -/
theorem js_ifAsg (c : Cz G k N sc B X) (i : Nat) {C : Cont} {t v : Expr} {tt : TT} {x : Bool} {y : Str} {p apos : Pos} {d0 d1 : PyData} (ht : JT G.K g X t tt ρ π x π1) (he : JE G.K (g ∧ x = true) X v te ρ π1 d1 π1) (h0 : ρ[i]? = some (.val d0) := by rfl) (kk : g → C.nx (ρ.set i (.val (if x then d1 else d0))) π1 := by exact fun _ => ⟨rfl, rfl⟩)
    (hi : N[i]? = some y := by rfl) (hx : sc.names.lookup y = some .local ∨ (B = true ∧ sc.names.lookup y = some .cell) := by first | exact .inl rfl | exact .inr ⟨rfl, rfl⟩)
    (hs : swapsWith v (some (.Name y p)) apos.line X.env = pure false := by rfl) : JS G.K g X (.If t [.Assign [.Name y p] v apos] [] pos) (tIfS tt (tAsg te (gName i)) tNext) ρ π C :=
  js_if ht (jss_one (js_asg c i he (fun q => by have := kk q.1; rw [q.2, if_pos rfl] at this; exact this) hi hx hs)) (jss_nil fun q => by
    have e : ρ.set i (.val d0) = ρ := by
      refine List.ext_getElem? fun j => ?_
      by_cases c : i = j
      · subst c
        rw [h0, List.getElem?_set_self (List.getElem?_eq_some_iff.mp h0).1]
      · rw [List.getElem?_set_ne c]
    have := kk q.1
    rw [q.2, if_neg Bool.false_ne_true, e] at this
    exact this)
theorem js_ifAsgI (c : Cz G k N sc B X) (i : Nat) {C : Cont} {t v : Expr} {tt : TT} {x : Bool} {y : Str} {p apos : Pos} {i1 i0 : Int} (ht : JT G.K g X t tt ρ π x π1) (he : JE G.K (g ∧ x = true) X v te ρ π1 (.int i1) π1) (h0 : ρ[i]? = some (.val (.int i0)) := by rfl) (kk : g → C.nx (ρ.set i (.val (.int (if x then i1 else i0)))) π1 := by exact fun _ => ⟨rfl, rfl⟩)
    (hi : N[i]? = some y := by rfl) (hx : sc.names.lookup y = some .local ∨ (B = true ∧ sc.names.lookup y = some .cell) := by first | exact .inl rfl | exact .inr ⟨rfl, rfl⟩)
    (hs : swapsWith v (some (.Name y p)) apos.line X.env = pure false := by rfl) : JS G.K g X (.If t [.Assign [.Name y p] v apos] [] pos) (tIfS tt (tAsg te (gName i)) tNext) ρ π C :=
  js_ifAsg c i ht he h0 (fun q => by
    have e : (if x = true then PyData.int i1 else PyData.int i0) = .int (if x = true then i1 else i0) := by split <;> rfl
    rw [e]; exact kk q) hi hx hs
theorem je_ifI {t a b : Expr} {tt : TT} {ta tb : TE} {x : Bool} {i1 i0 : Int} (ht : JT G.K g X t tt ρ π x π1) (ha : JE G.K (g ∧ x = true) X a ta ρ π1 (.int i1) π2) (hb : JE G.K (g ∧ x = false) X b tb ρ π1 (.int i0) π2) : JE G.K g X (.IfExp t a b pos) (tIf tt ta tb) ρ π (.int (if x then i1 else i0)) π2 :=
  (je_if' ht ha hb).is fun _ => by split <;> rfl
theorem ji_tupF' {α : Type} {f : α → PyData} {xs : List α} (x0 : α) (h : JE G.K g X e te ρ π (.tuple (xs.map f)) π1) (c : Cz G k N sc B X) : JI G.K g X tg e (iTup G.K te) ρ π xs.length (fun i => f (xs.getD i x0)) π1 := ji_tupF x0 h c
/-- what a loop leaves behind is known in what follows -/
theorem jss_consP {C : Cont} {st : Stmt} {rest : List Stmt} {ts tr : TS} {ρ1 : List Sl} {π1 : Pot} (P : Prop) (h : JS G.K g X st ts ρ π { C with nx := fun ρ' π' => ρ' = ρ1 ∧ π' = π1 ∧ P }) (hr : JSs G.K (g ∧ P) X rest tr ρ1 π1 C) : JSs G.K g X (st :: rest) (tSeq ts tr) ρ π C :=
  jss_mid (Mid := fun ρ' π' => ρ' = ρ1 ∧ π' = π1 ∧ P) h hr.pss fun q ρ' π' ⟨e1, e2, p⟩ => by
    subst e1 e2
    exact hr.ev ⟨q, p⟩
/-- items of told lines -/
theorem rv_ixLR {K : PySem.W.Frag} {n : Nat} {f : Nat → PyData} {z : Int} {i : Nat} (e : z = (i : Int)) (h : i < n) : RvD K (rIxL K) (.list ((List.range n).map f)) (.int z) (f i) :=
  rv_ixL (at_nat e (by rw [List.getElem?_map, List.getElem?_range h]; rfl))
theorem rv_ixTR {K : PySem.W.Frag} {n : Nat} {f : Nat → PyData} {z : Int} {i : Nat} (e : z = (i : Int)) (h : i < n) : RvD K (rIxT K) (.tuple ((List.range n).map f)) (.int z) (f i) :=
  rv_ixT (at_nat e (by rw [List.getElem?_map, List.getElem?_range h]; rfl))
theorem rv_ixTc0 {K : PySem.W.Frag} {d0 : PyData} {ds : List PyData} : RvD K (rIxT K) (.tuple (d0 :: ds)) (.int 0) d0 := rv_ixT (at_nat rfl rfl)
theorem rv_ixTc1 {K : PySem.W.Frag} {d0 d1 : PyData} {ds : List PyData} : RvD K (rIxT K) (.tuple (d0 :: d1 :: ds)) (.int 1) d1 := rv_ixT (at_nat (j := 1) rfl rfl)
theorem rv_ixTc2 {K : PySem.W.Frag} {d0 d1 d2 : PyData} {ds : List PyData} : RvD K (rIxT K) (.tuple (d0 :: d1 :: d2 :: ds)) (.int 2) d2 := rv_ixT (at_nat (j := 2) rfl rfl)
theorem rv_ixLE {K : PySem.W.Frag} {n : Nat} {f : Nat → PyData} : RvD K (rIxL K) (.list ((List.range (n + 1)).map f)) (.int (-1)) (f n) := rv_ixL (at_neg (by rw [List.getLast?_map, List.getLast?_range]; rfl))
theorem rv_ixTE {K : PySem.W.Frag} {n : Nat} {f : Nat → PyData} : RvD K (rIxT K) (.tuple ((List.range (n + 1)).map f)) (.int (-1)) (f n) := rv_ixT (at_neg (by rw [List.getLast?_map, List.getLast?_range]; rfl))
theorem rv_ixSN {K : PySem.W.Frag} {a : List Nat} {z : Int} {i : Nat} (hz : a.length ≤ sizeLine) (e : z = (i : Int)) (h : i < a.length) : RvD K rIxS (.str (S a)) (.int z) (.str (S [a.getD i 0])) :=
  rv_ixS hz (at_nat e (by rw [List.getD_eq_getElem?_getD, List.getElem?_eq_getElem h]; rfl))
end
section
variable {K : PySem.W.Frag}
theorem map_bool (n : Nat) (f : Nat → Bool) : ((List.range n).map fun i => PyData.bool (f i)) = ((List.range n).map f).map .bool := by rw [List.map_map]; rfl
theorem map_int (n : Nat) (f : Nat → Int) : ((List.range n).map fun i => PyData.int (f i)) = ((List.range n).map f).map .int := by rw [List.map_map]; rfl
theorem rc_allF {n : Nat} {f : Nat → Bool} : RcD K (rAll K) [.list ((List.range n).map fun i => .bool (f i))] (.bool ((List.range n).all f)) := by
  have q := rc_all (K := K) (bs := (List.range n).map f)
  rw [← map_bool, List.all_map] at q
  exact q
theorem rc_anyF {n : Nat} {f : Nat → Bool} : RcD K (rAny K) [.list ((List.range n).map fun i => .bool (f i))] (.bool ((List.range n).any f)) := by
  have q := rc_any (K := K) (bs := (List.range n).map f)
  rw [← map_bool, List.any_map] at q
  exact q
theorem rc_sumF {n : Nat} {f : Nat → Int} : RcD K (rSum K) [.list ((List.range n).map fun i => .int (f i))] (.int ((List.range n).map f).sum) := by
  have q := rc_sum (K := K) (ns := (List.range n).map f)
  rw [← map_int] at q
  exact q
end
section
variable {G : Glb} {k : Nat} {N : List Str} {sc : Scope} {B : Bool} {X : Cx} {g : Prop} {ρ : List Sl} {π π1 π2 : Pot} {e : Expr} {te : TE} {pos : Pos}
theorem je_joinF {n : Nat} {f : Nat → List Nat} {j : Nat} {cpos apos : Pos} (h : JE G.K g X e te ρ π (.list ((List.range n).map fun i => .str (S (f i)))) π1) (hz : g → (((List.range n).map f).map List.length).sum ≤ 16777216) (c : Cz G k N sc B X)
    (hs : starEach [e] X.env = [(false, eval e X.env)] := by rfl) (hbase : attributeBase (.Constant (.str (S [])) j cpos) "join" X.env (eval (.Constant (.str (S [])) j cpos) X.env) = eval (.Constant (.str (S [])) j cpos) X.env := by rfl) (hline : (apos.endLine == pos.line) = true := by rfl) :
    JE G.K g X (.Call (.Attribute (.Constant (.str (S [])) j cpos) "join" apos) [e] [] pos) (tM1 (fun x xs H Q => ∃ a p, ∃ ys : List Str, x = .str a ∧ xs = [.ref p] ∧ (SqL G.K H p (ys.map V.str) ∨ SqT G.K H p (ys.map V.str)) ∧ (ys.map (·.length)).sum + ys.length * a.length ≤ 16777216 ∧ Q (.str (Txt.join a ys)) H) (tC (.str (S []))) te) ρ π (.str (S ((List.range n).map f).flatten)) π1 :=
  je_join (ys := (List.range n).map f) (by rw [List.map_map]; exact h) hz c hs hbase hline
end
section
variable {K : PySem.W.Frag} {G : Glb} {k : Nat} {N : List Str} {sc : Scope} {B : Bool} {X : Cx}
theorem o_minD (c : Cz G k N sc B X) : CallR X (.builtin "min") (rMinD G.K) := toK (P := fun K => CallR X (.builtin "min") (rMinD K)) c (call_minD c.calm c.room)
theorem rc_minD {ds : List PyData} {v : PyData} (h : ∃ x xs, ds = x :: xs ∧ PySem.W.AlikeAll (x :: xs) ∧ PyData.depthAll (x :: xs) ≤ 32 ∧ PySem.W.minD x xs = v) : RcD K (rMinD K) [.list ds] v := fun M H vs dm hh Q q => by
  obtain ⟨x, xs, e, h1, h2, h3⟩ := h
  subst e h3
  obtain ⟨u, rfl, hv⟩ := all1 hh
  cases hv with
  | @lst a ys _ hs ha =>
    refine ⟨a, ys, x, xs, rfl, (mask_same _ _).seq hs, DpAll.up (mask_same _ _) _ ha, h1, h2, fun i v hi hd => q v H (Same.refl H) ?_⟩
    obtain ⟨d', e1, e2⟩ := ha.getV hi
    rw [hd] at e1
    cases e1
    exact e2
end
end JD

/-! ## JDPot -/
set_option Elab.async false
set_option linter.all false
set_option maxRecDepth 100000
set_option maxHeartbeats 2000000
/-! JD: powers; a def that hands back a new list; the new list becomes the pot -/
namespace JD
open PySem PySem.Spec PyProof.Rows L2

section
variable {K : PySem.W.Frag}
theorem rv_pow {i j : Int} (h : CPow i j) : RvD K (rI CPow fun i j => .int (i ^ j.toNat)) (.int i) (.int j) (.int (i ^ j.toNat)) := rv_I h fun _ => .int _
def CPowB (i j : Int) : Prop := 0 ≤ j ∧ (Builtin.Int.intBits i : Int) * j ≤ 2 ^ 27
theorem op_powB {X : Cx} : OpR X (binaryOp .Pow) (rI CPowB fun i j => .int (i ^ j.toNat)) := opI fun _ _ _ _ _ _ _ hc q => pow_int hc.1 hc.2 q
theorem rv_powB {i j : Int} (h : CPowB i j) : RvD K (rI CPowB fun i j => .int (i ^ j.toNat)) (.int i) (.int j) (.int (i ^ j.toNat)) := rv_I h fun _ => .int _
end
theorem cut_map {α β : Type} (f : α → β) (xs : List α) (lo hi : Option Int) : cutN (xs.map f) lo hi = (cutN xs lo hi).map f := by
  unfold cutN
  rw [List.length_map, ← List.map_drop, ← List.map_take]
theorem rc_sumCut {K : PySem.W.Frag} {xs : List Int} {lo hi : Option Int} : RcD K (rSum K) [.list (cutN (xs.map .int) lo hi)] (.int (cutN xs lo hi).sum) := by
  rw [cut_map]; exact rc_sum
theorem pot_at0 {π : Pot} : atI π.vs 0 = some (.int π.a) := at_nat (j := 0) rfl rfl
theorem pot_at1 {π : Pot} : atI π.vs 1 = some (.int π.b) := at_nat (j := 1) rfl rfl
theorem pot_at2 {π : Pot} : atI π.vs 2 = some (.int π.c) := at_nat (j := 2) rfl rfl
/-! ### a body that hands back a new list -/
def EvN (K : PySem.W.Frag) (ts : TS) (ρ : List Sl) (π : Pot) (ds : List PyData) (π' : Pot) : Prop := ∀ (w : Wd) (H : Hp) (σ : L2.St) (D : Ends), Rel K w ρ π H σ →
  (∀ p xs H', Ext w.P w.H0 H' → potAt w.P π' H' → w.H0 p = none → w.P ≠ some p → ¬ w.L0 p → H' p = some (.lst xs) → DpAll K (mask (fun a => w.L0 a ∨ a = p) H') xs ds → D.rt (.ref p) H') → ts D σ H
structure JN (K : PySem.W.Frag) (g : Prop) (X : Cx) (sts : List Stmt) (ts : TS) (ρ : List Sl) (π : Pot) (ds : List PyData) (π' : Pot) : Prop where
  pss : PSs X sts ts
  ev : g → EvN K ts ρ π ds π'
section
variable {G : Glb} {k : Nat} {N : List Str} {sc : Scope} {B : Bool} {X : Cx} {g : Prop} {ρ ρ1 : List Sl} {π π1 π2 : Pot} {C : Cont} {st : Stmt} {rest : List Stmt} {ts tr : TS} {e : Expr} {te : TE} {d : PyData} {ds : List PyData} {pos : Pos}
theorem jn_cons (h : JS G.K g X st ts ρ π { nx := fun ρ' π' => ρ' = ρ1 ∧ π' = π1, rt := fun _ _ => False }) (hr : JN G.K g X rest tr ρ1 π1 ds π2) : JN G.K g X (st :: rest) (tSeq ts tr) ρ π ds π2 :=
  ⟨pss_cons h.ps hr.pss, fun q w H σ D R n => h.ev q w H σ _ R (fun ad ρ' π' H' σ' ⟨e1, e2⟩ R' => by
    subst e1 e2
    exact hr.ev q { w with ad := ad } H' σ' D R' n) (fun _ _ _ _ z => z.elim) (fun _ _ _ _ _ z => z.elim) fun _ _ _ _ _ z => z.elim⟩
theorem jn_ret (h : JL G.K g X e te ρ π ds π1) : JN G.K g X [.Return (some e) pos] (tRet te) ρ π ds π1 :=
  ⟨pss_one (ps_ret h.pe), fun q w H σ D R n => h.ev q w H σ R _ fun p xs H1 e1 p1 hn hp ha => by
    refine n p xs H1 (R.ext.trans e1) p1 (R.h0 hn) (R.nP hn) (fun z => R.domL p z hn) hp (DpAll.up ?_ _ ha)
    exact mask_mono fun a o nn h => ⟨fun m => nn (m.elim (fun z => .inl (.inl z)) .inr), h⟩⟩
def spN (K : PySem.W.Frag) (R : Says) : Sp := fun vs H Q _ => ∃ (P : Option Addr) (L0 : Addr → Prop) (as : List Ag) (π : Pot) (ds : List PyData) (π' : Pot),
  (∀ a, L0 a → H a ≠ none) ∧ (∀ p, P = some p → L0 p) ∧ potAt P π H ∧ AgAll K P (mask L0 H) vs as ∧ R π as (.list ds) π' ∧
    ∀ p xs H', Ext P H H' → potAt P π' H' → H p = none → H' p = some (.lst xs) → DpAll K (mask (fun a => L0 a ∨ a = p) H') xs ds → Q (.ref p) H'
structure FnN (G : Glb) (k : Nat) (f : Addr) (fd : FuncData) (ps : List Str) (R : Says) : Prop where
  len : ∀ π as d π', R π as d π' → as.length = ps.length
  run : ∀ (A : Around) (outer : List Env) (s : Shared) (H : Hp) (args : Args) (us : List Value) (vs : List V) (Q : VK), Room k A → A.guards = some [] → Env0 G.prog G.w G.K G.mg G.base A outer s H → BindsTo s fd args (ps.zip us) → Vals vs us → spN G.K R vs H Q E0 →
    codeAny (model G.prog G.w) A (.call (.ref f) args) (CR CX0 outer G.prog G.w H s Q E0) s
structure DfN (G : Glb) (k : Nat) (x : Str) (ps : List Str) (R : Says) : Prop where
  ok : ∃ (f : Addr) (fd : FuncData), FnN G k f fd ps R ∧ Binds G.K fd ps [] ∧ G.mg x = some (.ref f) ∧ PySem.W.keepIn G.K (.ref f) = true
theorem DfN.mono {j : Nat} {x : Str} {ps : List Str} {R : Says} (D : DfN G j x ps R) (h : j ≤ k) : DfN G k x ps R := by
  obtain ⟨f, fd, F, a, b, c⟩ := D.ok
  exact ⟨f, fd, ⟨F.len, fun A outer s H args us vs Q hr => F.run A outer s H args us vs Q (hr.mono h)⟩, a, b, c⟩
theorem fnN {f : Addr} {fd : FuncData} {x qual : Str} {params : Arguments} {body : List Stmt} {scope : Scope} {ps : List Str} {R : Says} (F : FunD G.K x qual params body scope [] [] f fd) (S : FnScope N ps scope) (len : ∀ π as d π', R π as d π' → as.length = ps.length)
    (hb : ∀ X, Cz G k N scope true X → ∀ π as ds π', R π as (.list ds) π' → ∃ ts, JN G.K True X body ts (startR N as) π ds π') : FnN G (k + 1) f fd ps R := by
  refine ⟨len, fun A outer s H args us vs Q hr hg e0 hbind r hsp => ?_⟩
  obtain ⟨oc, od, dV, kV, doc, pm, an, cdv, ct, osl, rfl, lk, hcd, _, _⟩ := F.ex
  obtain ⟨P, L0, as, π, d, π', dm, pl, hp, ha, hR, hQ⟩ := hsp
  have hlv : vs.length = ps.length := by rw [ha.length]; exact len _ _ _ _ hR
  have hps : ps.length ≤ N.length := by have q := congrArg List.length S.pre; rw [List.length_take] at q; omega
  have KX : G.K.In s.heap := e0.mod.kin.keeps fun b o e => (e0.bs b o e).1
  have lim : s.heap.NoLimit := e0.mod.nolimit.keeps fun b o e => (e0.bs b o e).1
  have hkind : ∀ y ∈ ps.zip us, scope.names.lookup y.1 = some .local ∨ (scope.names.lookup y.1 = some .cell ∧ ((cellsFrom (s.heap.objs.size + 1) scope.names []).lookup y.1).isSome = true) := fun y hy => by
    rcases S.par y.1 (List.of_mem_zip (a := y.1) (b := y.2) hy).1 with q | q
    · exact .inl q
    · exact .inr ⟨q, PySem.W.cellsFrom_some _ _ _ (.inl q)⟩
  refine codeAny_call_function hr.depth (KX _ _ lk) rfl S.co S.gen rfl (PySem.W.codeRec_of KX hcd) (hbind _ _ _ _ ?_)
  refine wpAny_newFunctionEnv_cells S.kind hkind fun env he s1 x => ?_
  subst he
  refine ⟨lim.keeps x.toInCall.keep, codeAny_func ?_⟩
  let Y : Cx := (cxOf CX0 G.prog G.w G.K G.mg G.base N qual scope f cdv A outer s H E0).nox
  have cz : Cz G k N scope true Y := ⟨rfl, rfl, rfl, rfl, rfl, rfl, hg, hr.deeper _, rfl, S.nd, rfl, rfl, fun _ _ => rfl⟩
  obtain ⟨ts, J⟩ := hb Y cz π as d π' hR
  have I0 : Inv (cxOf CX0 G.prog G.w G.K G.mg G.base N qual scope f cdv A outer s H E0) [] (start N vs) H s1 := inv_start S hr.hd e0 hlv r x
  have I : Inv Y [] (start N vs) H s1 := I0.wish _
  have Rl := rel_start (N := N) dm pl hp ha (by rw [← ha.length, hlv]; exact hps)
  have body := J.pss.run [] s1 (start N vs) H { nx := fun _ H' => Q .non H', rt := Q } I (J.ev trivial _ H (start N vs) _ Rl fun p xs H' e1 p1 h0 _ _ hp ha => hQ p xs H' e1 p1 h0 hp ha)
  refine wpAny_mono body (fun fl s' hs => ?_) fun e s' hs => hs.elim
  have fin : ∀ {σ' : L2.St} {H' : Hp} {v : V} {u : Value}, Inv Y [] σ' H' s' → RelV v u → Q v H' → CE outer G.prog G.w H s Q u s' := fun {σ' H' v u} J rv q => ⟨v, H', J.os, J.bare, J.base, J.hok, rv, q⟩
  cases fl with
  | ret u =>
    obtain ⟨v, σ', H', J, rv, q⟩ := hs
    exact fin J rv q
  | next =>
    obtain ⟨σ', H', J, q⟩ := hs
    exact fin (v := V.non) (u := Value.none) J rfl q
  | brk =>
    obtain ⟨_, _, _, q⟩ := hs
    exact False.elim q
  | cont =>
    obtain ⟨_, _, _, q⟩ := hs
    exact False.elim q
theorem mkDfN {x : Str} {st : Stmt} {ps : List Str} {R : Says} (A : At G x st) (Sc : FnScope N ps (defScope st)) (len : ∀ π as d π', R π as d π' → as.length = ps.length)
    (bd : ∀ (kV doc pm : Value) (an : Option Addr) (cdv ct : Value) (us : List Value), us.length = ps.length → bindArgs (PySem.W.fnOf x x (defArgs st) (defBody st) (defScope st) .none kV doc pm an cdv ct) ⟨us, []⟩ = pure (ps.zip us))
    (hb : ∀ X, Cz G k N (defScope st) true X → ∀ π as ds π', R π as (.list ds) π' → ∃ ts, JN G.K True X (defBody st) ts (startR N as) π ds π') : DfN G (k + 1) x ps R := by
  obtain ⟨f, fd, F, hm⟩ := A
  exact ⟨f, fd, fnN F Sc len hb, F.bindsN bd, hm, F.kp⟩
theorem run_fnN {f : Addr} {fd : FuncData} {ps : List Str} {R : Says} {pins : List (Addr × Obj)} {σ : L2.St} {H : Hp} {s : Shared} {Q : VK} {us : List Value} {vs : List V} (c : Cz G k N sc B X) (F : FnN G k f fd ps R) (hb : Binds G.K fd ps []) (I : Inv X pins σ H s) (r : Vals vs us) (h : spN G.K R vs H Q E0) :
    wpAny (model X.prog X.w) X.A (call (.ref f) us) (EP X pins σ Q) X.xe s := by
  have hl : (us ++ []).length = ps.length := by
    obtain ⟨P, L0, as, π, d, π', _, _, _, ha, hR, _⟩ := h
    rw [List.append_nil, ← r.length, ha.length]
    exact F.len _ _ _ _ hR
  have e0 : Env0 G.prog G.w G.K G.mg G.base X.A X.stack s H := by
    have q := I.env0
    rw [c.prog, c.w, c.K, c.mg, c.base] at q
    exact q
  have bd := hb s us (by have q := I.kIn; rw [c.K] at q; exact q) hl
  rw [List.append_nil] at bd
  have go := F.run X.A X.stack s H ⟨us, []⟩ us vs Q c.room c.gd e0 bd r h
  rw [← c.prog, ← c.w] at go
  refine wpAny_call (codeAny_mono go fun r s' hq => ?_)
  cases r with
  | error e => exact False.elim hq
  | ok fl =>
    cases fl with
    | ret u => exact I.after hq
    | next => exact False.elim hq
    | brk => exact False.elim hq
    | cont => exact False.elim hq
theorem jl_callN {x : Str} {ps : List Str} {R : Says} {e : Expr} {es : List Expr} {p pos : Pos} {t : TA} {as : List Ag} (c : Cz G k N sc B X) (D : DfN G k x ps R) (ha : JA G.K g X (e :: es) t ρ π as π1) (hR : g → R π1 as (.list ds) π2)
    (hg : sc.names.lookup x = some .globalImplicit := by rfl) (hdb : (x == ("__debug__" : Str)) = false := by decide) (he : starEach (e :: es) X.env = (false, eval e X.env) :: starEach es X.env := by rfl) (hpl : (backTo pos (starEach es X.env)).any (·.1) = false := by rfl) :
    JL G.K g X (.Call (.Name x p) (e :: es) [] pos) (tCall (spN G.K R) [] E0 t) ρ π ds π2 := by
  obtain ⟨f, fd, F, hb, hm, hk⟩ := D.ok
  refine ⟨⟨fun pins s σ H Q I h => ?_⟩, fun gg w H σ Rl Q q => ?_⟩
  · refine wpAny_Call_Name_kw (ld_glob I (c.gl hg) (c.ss hm) ?_ hdb)
    refine PySem.W.callWith_K (h₀ := X.base) I.ok.mod.kin (by rw [c.K]; exact hk) (thn (ha.pa.run pos pins s σ H _ I h) fun us s1 ⟨vs, H1, I1, r, q⟩ => ⟨I1.kIn, ?_⟩) he hpl
    have q : spN G.K R (vs ++ []) H1 Q E0 := q
    rw [List.append_nil] at q
    exact run_fnN c F hb I1 r q
  · refine ha.ev gg w H σ Rl _ fun vs H1 e1 p1 q1 => ?_
    have R1 := Rl.step e1 p1
    show spN G.K R (vs ++ []) H1 Q E0
    rw [List.append_nil]
    exact ⟨w.P, w.M ρ, as, π1, ds, π2, fun a m => R1.domH m, fun p e => R1.potM e, p1, q1, hR gg, fun p xs H' e2 p2 hn hp h => q p xs H' (e1.trans e2) p2 (e1.fresh p1 hn) hp h⟩
/-! ### the new list becomes the pot -/
theorem Wd.M_P {w : Wd} {p : Addr} {ρ : List Sl} {a : Addr} : Wd.M ⟨some p, fun a => w.L0 a ∨ a = p, w.H0, w.ad⟩ ρ a ↔ (w.M ρ a ∨ a = p) := by
  constructor
  · rintro ((m | m) | m)
    · exact .inl (.inl m)
    · exact .inr m
    · exact .inl (.inr m)
  · rintro ((m | m) | m)
    · exact .inl (.inl m)
    · exact .inr m
    · exact .inl (.inr m)
theorem nPot : ¬ isOwn .pot := fun z => z
def noPot (ρ : List Sl) : Prop := ∀ j : Nat, ρ[j]? ≠ some .pot
def Pot.dd (π : Pot) : List PyData := [.int π.a, .int π.b, .int π.c]
theorem ds_vs {K : PySem.W.Frag} {H : Hp} {π : Pot} {xs : List V} (h : DpAll K H xs π.dd) : xs = π.vs := DpAll.ints (ns := [π.a, π.b, π.c]) h
/-- the world with the pot at p -/
noncomputable def Wd.withPot (w : Wd) (ρ : List Sl) (H1 : Hp) (p : Addr) : Wd := ⟨some p, fun a => w.L0 a ∨ a = p, mask (fun a => ∃ i, ownAt ρ i ∧ a = w.ad i) H1, w.ad⟩
theorem withPot_M {w : Wd} {ρ ρ' : List Sl} {H1 : Hp} {p a : Addr} : (w.withPot ρ H1 p).M ρ' a ↔ (w.M ρ' a ∨ a = p) := by
  constructor
  · rintro ((m | m) | m)
    · exact .inl (.inl m)
    · exact .inr m
    · exact .inl (.inr m)
  · rintro ((m | m) | m)
    · exact .inl (.inl m)
    · exact .inr m
    · exact .inl (.inr m)
theorem Rel.withPot {K : PySem.W.Frag} {w : Wd} {π π0 : Pot} {H H1 : Hp} {σ : L2.St} {i : Nat} {p : Addr} (R : Rel K w ρ π H σ) (hi : i < ρ.length) (np : noPot ρ) (e : Ext w.P H H1) (hp : potAt w.P π H1) (hn : H p = none) (hH : H1 p = some (.lst π0.vs)) :
    Rel K (w.withPot ρ H1 p) (ρ.set i .pot) π0 H1 (σ.set i (some (.ref p))) := by
  have R1 := R.step e hp
  have nP : ∀ j, ownAt ρ j → w.ad j ≠ p := fun j h z => by
    have := R.domH (.inr ⟨j, h, rfl⟩)
    rw [z] at this; exact this hn
  have back : ∀ {j}, ownAt (ρ.set i .pot) j → ownAt ρ j := fun {j} h => by
    by_cases c : i = j
    · subst c; exact absurd h (not_own_set (by first | exact nPot | exact nU))
    · exact h.of_set_ne c
  have up : Same (mask (w.M ρ) H) (mask ((w.withPot ρ H1 p).M (ρ.set i .pot)) H1) := fun b o eb => by
    obtain ⟨nb, eb⟩ := mask_some eb
    have nbp : b ≠ p := fun z => by rw [z, hn] at eb; cases eb
    rw [mask_out (fun m => (withPot_M.mp m).elim (fun m => nb (M_set_le nPot m)) nbp)]
    exact e b o (fun z => nb (R.potM z)) eb
  have get : ∀ {j : Nat} {s : Sl}, (ρ.set i .pot)[j]? = some s → s ≠ .pot → i ≠ j ∧ ρ[j]? = some s := fun {j s} h ns => by
    by_cases c : i = j
    · subst c; exact absurd (get_set_some h) ns
    · rw [List.getElem?_set_ne c] at h; exact ⟨c, h⟩
  refine ⟨by rw [List.length_set, List.length_set]; exact R.len, fun q e => .inr (Option.some.inj e).symm, fun q e => by rw [← Option.some.inj e]; exact hH, fun b o n eb => (mask_some (M := fun a => ∃ i, ownAt ρ i ∧ a = w.ad i) eb).2, fun a m => ?_, fun j h m => ?_, fun j h => mask_in (M := fun a => ∃ i, ownAt ρ i ∧ a = w.ad i) (show ∃ i, ownAt ρ i ∧ w.ad j = w.ad i from ⟨j, back h, rfl⟩), fun j l hj hl => R.inj j l (back hj) (back hl), fun j d h => ?_, fun j ds h => ?_, fun j kvs h => ?_, fun j h => ?_⟩
  · rcases m with m | m
    · exact R1.domL a m
    · rw [m, hH]; exact nofun
  · rcases m with m | m
    · exact R.disj j (back h) m
    · exact nP j (back h) m
  · obtain ⟨c, h⟩ := get h nofun
    obtain ⟨v, h1, h2⟩ := R.vals j d h
    exact ⟨v, by rw [List.getElem?_set_ne c]; exact h1, Dp.up up _ h2⟩
  · obtain ⟨c, h⟩ := get h nofun
    obtain ⟨xs, h1, h2, h3⟩ := R.owns j ds h
    exact ⟨xs, by rw [List.getElem?_set_ne c]; exact h1, e _ _ (fun z => R.disj j ⟨_, h, trivial⟩ (R.potL _ z)) h2, DpAll.up up _ h3⟩
  · obtain ⟨c, h⟩ := get h nofun
    obtain ⟨h1, h2⟩ := R.dics j kvs h
    exact ⟨by rw [List.getElem?_set_ne c]; exact h1, e _ _ (fun z => R.disj j ⟨_, h, trivial⟩ (R.potL _ z)) h2⟩
  · by_cases c : i = j
    · subst c
      exact ⟨p, rfl, List.getElem?_set_self (by rw [R.len]; exact hi)⟩
    · rw [List.getElem?_set_ne c] at h
      exact absurd h (np j)
theorem withPot_ext {K : PySem.W.Frag} {w : Wd} {π : Pot} {H H1 H2 : Hp} {σ : L2.St} {p : Addr} (R : Rel K w ρ π H σ) (e : Ext w.P H H1) (hp : potAt w.P π H1) (hn : H p = none) (e2 : Ext (some p) (mask (fun a => ∃ i, ownAt ρ i ∧ a = w.ad i) H1) H2) : Ext w.P w.H0 H2 ∧ potAt w.P π H2 := by
  have R1 := R.step e hp
  constructor
  · intro b o n eb
    have nb : ¬ ∃ i, ownAt ρ i ∧ b = w.ad i := fun ⟨j, hj, z⟩ => by
      have := R.own0 j hj
      rw [← z, eb] at this; cases this
    refine e2 b o (fun z => ?_) (by rw [mask_out nb]; exact R1.ext b o n eb)
    rw [← Option.some.inj z, R.h0 hn] at eb; cases eb
  · intro q eq
    have nb : ¬ ∃ i, ownAt ρ i ∧ q = w.ad i := fun ⟨j, hj, z⟩ => R.disj j hj (by rw [← z]; exact R.potL q eq)
    refine e2 q _ (fun z => ?_) (by rw [mask_out nb]; exact hp q eq)
    have := R.pot q eq
    rw [← Option.some.inj z, hn] at this; cases this
theorem Rel.outPot {K : PySem.W.Frag} {w : Wd} {π π2 : Pot} {H H1 H2 : Hp} {σ σ2 : L2.St} {i : Nat} {p : Addr} {ad : Nat → Addr} {ρ2 : List Sl} (R : Rel K w ρ π H σ) (e : Ext w.P H H1) (hp : potAt w.P π H1) (hn : H p = none) (R2 : Rel K { w.withPot ρ H1 p with ad := ad } ρ2 π2 H2 σ2) (np : noPot (ρ2.set i .un)) :
    Rel K { w with ad := ad } (ρ2.set i .un) π H2 σ2 := by
  obtain ⟨x1, x2⟩ := withPot_ext R e hp hn R2.ext
  have R1 := R.step e hp
  have back : ∀ {j}, ownAt (ρ2.set i .un) j → ownAt ρ2 j := fun {j} h => by
    by_cases c : i = j
    · subst c; exact absurd h (not_own_set (by first | exact nPot | exact nU))
    · exact h.of_set_ne c
  have up : Same (mask (Wd.M { w.withPot ρ H1 p with ad := ad } ρ2) H2) (mask (Wd.M { w with ad := ad } (ρ2.set i .un)) H2) := mask_mono fun a o n h => ⟨fun m => n (by
    rcases m with m | ⟨j, hj, z⟩
    · exact .inl (.inl m)
    · exact .inr ⟨j, back hj, z⟩), h⟩
  have get : ∀ {j : Nat} {s : Sl}, (ρ2.set i .un)[j]? = some s → s ≠ .un → ρ2[j]? = some s := fun {j s} h ns => by
    by_cases c : i = j
    · subst c; exact absurd (get_set_some h) ns
    · rw [List.getElem?_set_ne c] at h; exact h
  refine ⟨by rw [List.length_set]; exact R2.len, R.potL, x2, x1, fun a m => R2.domL a (.inl m), fun j h m => R2.disj j (back h) (.inl m), fun j h => ?_, fun j l hj hl => R2.inj j l (back hj) (back hl), fun j d h => ?_, fun j ds h => ?_, fun j kvs h => R2.dics j kvs (get h nofun), fun j h => absurd h (np j)⟩
  · have z0 := R2.own0 j (back h)
    cases q : w.H0 (ad j) with
    | none => rfl
    | some o =>
      have nP : w.P ≠ some (ad j) := fun z => R2.disj j (back h) (.inl (R.potL _ z))
      have nb : ¬ ∃ i, ownAt ρ i ∧ ad j = w.ad i := fun ⟨l, hl, z⟩ => by
        have := R.own0 l hl
        rw [← z, q] at this; cases this
      have : mask (fun a => ∃ i, ownAt ρ i ∧ a = w.ad i) H1 (ad j) = some o := by rw [mask_out nb]; exact R1.ext _ _ nP q
      have z1 : mask (fun a => ∃ i, ownAt ρ i ∧ a = w.ad i) H1 (ad j) = none := z0
      rw [this] at z1; cases z1
  · obtain ⟨v, h1, h2⟩ := R2.vals j d (get h nofun)
    exact ⟨v, h1, Dp.up up _ h2⟩
  · obtain ⟨xs, h1, h2, h3⟩ := R2.owns j ds (get h nofun)
    exact ⟨xs, h1, h2, DpAll.up up _ h3⟩
/-- x = f(..), the new list of three numbers; the rest is run with it as the pot -/
theorem jss_pot (c : Cz G k N sc B X) (i : Nat) {x : Str} {pos' : Pos} {π0 : Pot} (he : JL G.K g X e te ρ π π0.dd π) (np : noPot ρ) (hr : JSs G.K g X rest tr (ρ.set i .pot) π0 { nx := fun ρ' _ => C.nx (ρ'.set i .un) π ∧ noPot (ρ'.set i .un), rt := fun d _ => C.rt d π, bk := fun ρ' _ => C.bk (ρ'.set i .un) π ∧ noPot (ρ'.set i .un), ct := fun ρ' _ => C.ct (ρ'.set i .un) π ∧ noPot (ρ'.set i .un), rx := C.rx })
    (hi : i < ρ.length := by exact Nat.le_of_ble_eq_true rfl) (hN : N[i]? = some x := by rfl) (hx : sc.names.lookup x = some .local ∨ (B = true ∧ sc.names.lookup x = some .cell) := by first | exact .inl rfl | exact .inr ⟨rfl, rfl⟩) (hs : swapsWith e (some (.Name x pos')) pos.line X.env = pure false := by rfl) :
    JSs G.K g X (.Assign [.Name x pos'] e pos :: rest) (tSeq (tAsg te (gName i)) tr) ρ π C :=
  ⟨pss_cons (ps_setG c i he.pe hN hx hs) hr.pss, fun q w H σ D R n r b t => he.ev q w H σ R _ fun p xs H1 e1 p1 hn hp ha => by
    have ex := ds_vs ha
    subst ex
    have R2 := R.withPot (i := i) hi np e1 p1 hn hp
    refine hr.ev q _ H1 _ D R2 (fun ad ρ' π' H' σ' ⟨z1, z2⟩ R' => n ad _ π H' σ' z1 (R.outPot e1 p1 hn R' z2)) (fun v d π' H' z zx e2 p2 dp => ?_) (fun ad ρ' π' H' σ' ⟨z1, z2⟩ R' => b ad _ π H' σ' z1 (R.outPot e1 p1 hn R' z2)) (fun ad ρ' π' H' σ' ⟨z1, z2⟩ R' => t ad _ π H' σ' z1 (R.outPot e1 p1 hn R' z2))
    obtain ⟨x1, x2⟩ := withPot_ext R e1 p1 hn e2
    exact r v d π H' z zx x1 x2 (Dp.up (mask_mono fun a o nn h => ⟨fun m => nn (.inl m), h⟩) _ dp)⟩
end
end JD

/-! ## JDTwo -/
set_option Elab.async false
set_option linter.all false
set_option maxRecDepth 100000
set_option maxHeartbeats 2000000
/-! JD: a list of lists that the def itself made and changes -/
namespace JD
open PySem PySem.Spec PyProof.Rows L2

/-- o the list, ps its lists, all made by the def, held beside what is told -/
structure Two (K : PySem.W.Frag) (w : Wd) (Z : Hp) (ρ : List Sl) (π : Pot) (H : Hp) (σ : L2.St) (s : Nat) (o : Addr) (ps : List Addr) (rows : List (List Int)) : Prop where
  rel : Rel K ⟨w.P, fun a => w.L0 a ∨ a ∈ o :: ps, Z, w.ad⟩ ρ π H σ
  sep : ∀ a, a ∈ o :: ps → Z a = none ∧ w.P ≠ some a ∧ ¬ w.L0 a
  nd : (o :: ps).Nodup
  slot : σ[s]? = some (some (.ref o))
  top : H o = some (.lst (ps.map V.ref))
  len : ps.length = rows.length
  row : ∀ (j : Nat) p r, ps[j]? = some p → rows[j]? = some r → H p = some (.lst (r.map V.int))
theorem Rel.congrL {K : PySem.W.Frag} {P : Option Addr} {L L' : Addr → Prop} {Z : Hp} {ad : Nat → Addr} {ρ : List Sl} {π : Pot} {H : Hp} {σ : L2.St} (R : Rel K ⟨P, L, Z, ad⟩ ρ π H σ) (h : ∀ a, L a ↔ L' a) : Rel K ⟨P, L', Z, ad⟩ ρ π H σ := by
  have e : L = L' := funext fun a => propext (h a)
  rw [← e]; exact R
section
variable {K : PySem.W.Frag} {w : Wd} {Z : Hp} {ρ : List Sl} {π π' : Pot} {H H' : Hp} {σ : L2.St} {s : Nat} {o : Addr} {ps : List Addr} {rows : List (List Int)}
theorem Two.step (T : Two K w Z ρ π H σ s o ps rows) (e : Ext w.P H H') (hp : potAt w.P π' H') : Two K w Z ρ π' H' σ s o ps rows :=
  ⟨T.rel.step e hp, T.sep, T.nd, T.slot, e o _ (T.sep o (List.mem_cons_self ..)).2.1 T.top, T.len, fun j p r h1 h2 => e p _ (T.sep p (List.mem_cons_of_mem _ (List.mem_of_getElem? h1))).2.1 (T.row j p r h1 h2)⟩
theorem Two.set (T : Two K w Z ρ π H σ s o ps rows) {i : Nat} (hi : i ≠ s) {v : V} {d : PyData} (hd : ∀ H, Dp K H v d) : Two K w Z (ρ.set i (.val d)) π H (σ.set i (some v)) s o ps rows :=
  ⟨T.rel.set (hd _), T.sep, T.nd, by rw [List.getElem?_set_ne hi]; exact T.slot, T.top, T.len, T.row⟩
theorem Two.forget (T : Two K w Z ρ π H σ s o ps rows) (js : List Nat) : Two K w Z (JD.forget js ρ) π H σ s o ps rows := ⟨T.rel.forget js, T.sep, T.nd, T.slot, T.top, T.len, T.row⟩
theorem dp_rows {M : Addr → Prop} : ∀ {ps : List Addr} {rows : List (List Int)}, ps.length = rows.length → (∀ p ∈ ps, ¬ M p) → (∀ (j : Nat) p r, ps[j]? = some p → rows[j]? = some r → H p = some (.lst (r.map V.int))) → DpAll K (mask M H) (ps.map V.ref) (rows.map fun r => .list (r.map .int))
  | [], [], _, _, _ => .nil
  | [], _ :: _, h, _, _ => by simp at h
  | _ :: _, [], h, _, _ => by simp at h
  | p :: ps, r :: rows, h, hm, hr => by
    refine .cons (.lst (.inl (.inl ?_)) (DpAll.ofInts r)) (dp_rows (by simpa using h) (fun q hq => hm q (List.mem_cons_of_mem _ hq)) fun j q t h1 h2 => hr (j + 1) q t (by simpa using h1) (by simpa using h2))
    rw [mask_out (hm p (List.mem_cons_self ..))]
    exact hr 0 p r rfl rfl
/-- read as data -/
theorem Two.data (T : Two K w Z ρ π H σ s o ps rows) {M : Addr → Prop} (hm : ∀ a, a ∈ o :: ps → ¬ M a) : Dp K (mask M H) (.ref o) (.list (rows.map fun r => .list (r.map .int))) := by
  refine .lst (.inl (.inl ?_)) (dp_rows T.len (fun p hp => hm p (List.mem_cons_of_mem _ hp)) T.row)
  rw [mask_out (hm o (List.mem_cons_self ..))]
  exact T.top
/-- an item of an item stored -/
theorem Two.poke (T : Two K w Z ρ π H σ s o ps rows) {i : Nat} {p : Addr} {r : List Int} (hp : ps[i]? = some p) (hr : rows[i]? = some r) (j : Nat) (z : Int) : Two K w Z ρ π (upd H p (.lst ((r.map V.int).set j (.int z)))) σ s o ps (rows.set i (r.set j z)) := by
  have hmem : p ∈ ps := List.mem_of_getElem? hp
  have hs := T.sep p (List.mem_cons_of_mem _ hmem)
  have hno : o ≠ p := fun e => (List.nodup_cons.mp T.nd).1 (by rw [e]; exact hmem)
  refine ⟨T.rel.poke (.inr (List.mem_cons_of_mem _ hmem)) hs.2.1 hs.1, T.sep, T.nd, T.slot, by rw [upd_ne hno]; exact T.top, by rw [List.length_set]; exact T.len, fun l q t h1 h2 => ?_⟩
  by_cases c : i = l
  · subst c
    rw [hp] at h1
    cases h1
    rw [List.getElem?_set_self (List.getElem?_eq_some_iff.mp hr).1] at h2
    cases h2
    rw [upd_same, List.map_set]
  · rw [List.getElem?_set_ne c] at h2
    have hqp : q ≠ p := fun e => by
      subst e
      have nd := (List.nodup_cons.mp T.nd).2
      exact c ((List.getElem?_inj (List.getElem?_eq_some_iff.mp hp).1 nd).mp (hp.trans h1.symm))
    rw [upd_ne hqp]
    exact T.row l q t h1 h2
/-- what is left of it behind the def's last word -/
theorem Two.rest (T : Two K w Z ρ π H σ s o ps rows) {H1 : Hp} (hZ : Z = mask (fun a => a ∈ o :: ps) H1) (h0 : Ext w.P w.H0 H1) (hn : ∀ a, a ∈ o :: ps → w.H0 a = none) (e : Ext w.P H H') : Ext w.P w.H0 H' := fun b u n eb => by
  refine e b u n (T.rel.ext b u n ?_)
  show Z b = some u
  rw [hZ, mask_out (fun m => by rw [hn b m] at eb; cases eb)]
  exact h0 b u n eb
end
section
variable {K : PySem.W.Frag} {w : Wd} {ρ : List Sl} {π : Pot} {H : Hp} {σ : L2.St}
theorem set_un {i : Nat} (h : ρ[i]? = some .un) : ρ.set i .un = ρ := by
  refine List.ext_getElem? fun j => ?_
  by_cases c : i = j
  · subst c
    rw [h, List.getElem?_set_self (List.getElem?_eq_some_iff.mp h).1]
  · rw [List.getElem?_set_ne c]
theorem Rel.free (R : Rel K w ρ π H σ) {i : Nat} (h : ρ[i]? = some .un) (x : Option V) : Rel K w ρ π H (σ.set i x) := by
  have := R.wipe1 (i := i) (x := x)
  rw [set_un h] at this
  exact this
theorem wipe_back (σ : L2.St) (v : Nat) : (wipe σ [v]).set v (σ[v]?.getD Option.none) = σ := by
  refine List.ext_getElem? fun j => ?_
  by_cases c : v = j
  · subst c
    by_cases l : v < σ.length
    · rw [List.getElem?_set_self (by rw [wipe_length]; exact l), List.getElem?_eq_getElem l]; rfl
    · rw [List.getElem?_eq_none (by rw [List.length_set, wipe_length]; omega), List.getElem?_eq_none (by omega)]
  · rw [List.getElem?_set_ne c, wipe_get, if_neg (fun z => c ((List.mem_singleton.mp z.1).symm))]
theorem yes_if {P Q : Prop} (h : P) : if true = true then P else Q := by rw [if_pos rfl]; exact h
/-- [f() for v in range(n)], each item a new list of the same numbers -/
theorem two_lc {ta : TA} {te : TE} {v s : Nat} {n : Int} {r : List Int} {D : Ends} (R : Rel K w ρ π H σ) (ea : EvA K ta ρ π [.d (.int n)] π) (hn : -(2 ^ 62) ≤ n ∧ n < 2 ^ 62 ∧ n ≤ 16000000) (hv : ρ[v]? = some .un) (hs : ρ[s]? = some .un) (hsl : s < σ.length) (he : ∀ i : Nat, EvL K te (ρ.set v (.val (.int (i : Int)))) π (r.map .int) π)
    (k : ∀ o ps H', Two K w w.H0 ρ π H' (σ.set s (some (.ref o))) s o ps (List.replicate n.toNat r) → D.nx (σ.set s (some (.ref o))) H') : tAsg (tLc (iRng1 ta) (gName v) tYes te [v]) (gName s) D σ H := by
  refine ea w H σ R _ fun vs H1 e1 p1 q1 => ?_
  obtain ⟨u, rfl, hu⟩ := all1 (AgAll.data (ds := [.int n]) q1)
  cases hu
  refine ⟨n, rfl, hn.1, hn.2.1, fun D0 hD => ?_⟩
  have R1 := R.step e1 p1
  have Rw : Rel K w ρ π H1 (wipe σ [v]) := R1.wipes fun j hj => by
    have e : j = v := by simpa using hj
    subst e; exact .inl hv
  have pD : potAt w.P π (upd H1 D0 (.lst [])) := fun p e => by rw [upd_ne (ne_of_none (p1 p e) hD)]; exact p1 p e
  let Pv : Nat → Hp → Prop := fun i H' => ∃ ps, Rel K ⟨w.P, fun a => w.L0 a ∨ a ∈ D0 :: ps, w.H0, w.ad⟩ ρ π H' (wipe σ [v]) ∧ (∀ a, a ∈ D0 :: ps → w.H0 a = none ∧ w.P ≠ some a ∧ ¬ w.L0 a) ∧ (D0 :: ps).Nodup ∧ H' D0 = some (.lst (ps.map V.ref)) ∧ ps.length = i ∧ ∀ p ∈ ps, H' p = some (.lst (r.map V.int))
  refine lc_it (walk_range (lo := 0) (n := n.toNat)) Pv ⟨[], (Rw.hold (.new hD) pD hD (by rw [upd_same]; exact nofun)).congrL fun a => by simp, fun a ha => by
    have e : a = D0 := by simpa using ha
    subst e
    exact ⟨R1.h0 hD, R1.nP hD, fun z => R1.domL _ z hD⟩, by simp, upd_same, rfl, fun p hp => nomatch hp⟩ (fun _ _ _ _ => trivial) (fun i x Hc H' hlt hPv hY => ?_) (fun H' hPv => ?_)
  · obtain ⟨ps, rel, sep, nd, top, len, row⟩ := hPv
    obtain ⟨eH, ex⟩ := hY
    subst eH ex
    have ez : (0 : Int) + (i : Int) = (i : Int) := by omega
    have R2 := rel.set (i := v) (v := .int ((0 : Int) + (i : Int))) (d := .int (i : Int)) (by rw [ez]; exact .int _)
    refine ⟨by rw [wipe_set (by simp)]; exact wipe_wipe, ?_⟩
    unfold tYes
    refine Eq.mpr (if_pos rfl) ?_
    refine he i _ H' _ R2 _ fun p xs H4 e4 p4 hpn hp ha => ?_
    have ex := ha.ints
    subst ex
    have hnot : p ∉ D0 :: ps := fun z => R2.domL p (.inr z) hpn
    have hD4 : H4 D0 = some (.lst (ps.map V.ref)) := e4 D0 _ (sep D0 (List.mem_cons_self ..)).2.1 top
    have hsp : w.H0 p = none ∧ w.P ≠ some p ∧ ¬ w.L0 p := ⟨R2.h0 hpn, R2.nP hpn, fun z => R2.domL p (.inl z) hpn⟩
    have hpD : D0 ≠ p := fun z => hnot (by rw [← z]; exact List.mem_cons_self ..)
    refine ⟨_, hD4, by rw [List.length_map, len, sizeLine_eq]; omega, ps ++ [p], ?_, fun a ha' => ?_, ?_, ?_, by rw [List.length_append, len]; rfl, fun q hq => ?_⟩
    · have R3 := (rel.hold e4 p4 hpn (by rw [hp]; exact nofun)).poke (D := D0) (o := .lst (ps.map V.ref ++ [.ref p])) (.inl (.inr (List.mem_cons_self ..))) (sep D0 (List.mem_cons_self ..)).2.1 (sep D0 (List.mem_cons_self ..)).1
      refine R3.congrL fun a => ?_
      simp only [List.mem_cons, List.mem_append, List.not_mem_nil, or_false]
      constructor
      · rintro ((h | h | h) | h)
        · exact .inl h
        · exact .inr (.inl h)
        · exact .inr (.inr (.inl h))
        · exact .inr (.inr (.inr h))
      · rintro (h | h | h | h)
        · exact .inl (.inl h)
        · exact .inl (.inr (.inl h))
        · exact .inl (.inr (.inr h))
        · exact .inr h
    · rcases List.mem_cons.mp ha' with h | h
      · rw [h]; exact sep D0 (List.mem_cons_self ..)
      · rcases List.mem_append.mp h with h | h
        · exact sep a (List.mem_cons_of_mem _ h)
        · rw [List.mem_singleton.mp h]; exact hsp
    · rw [List.nodup_cons] at nd ⊢
      refine ⟨fun z => ?_, ?_⟩
      · rcases List.mem_append.mp z with z | z
        · exact nd.1 z
        · exact hpD (List.mem_singleton.mp z)
      · rw [List.nodup_append]
        refine ⟨nd.2, by simp, fun a ha' b hb => ?_⟩
        rw [List.mem_singleton.mp hb]
        exact fun z => hnot (List.mem_cons_of_mem _ (by rw [← z]; exact ha'))
    · rw [upd_same, List.map_append]; rfl
    · have hqD : q ≠ D0 := fun z => by
        subst z
        rcases List.mem_append.mp hq with z | z
        · exact (List.nodup_cons.mp nd).1 z
        · exact hpD (List.mem_singleton.mp z)
      rw [upd_ne hqD]
      rcases List.mem_append.mp hq with z | z
      · exact e4 q _ (sep q (List.mem_cons_of_mem _ z)).2.1 (row q z)
      · rw [List.mem_singleton.mp z]; exact hp
  · obtain ⟨ps, rel, sep, nd, top, len, row⟩ := hPv
    refine k D0 ps H' ⟨?_, sep, nd, List.getElem?_set_self hsl, top, by rw [len, List.length_replicate], fun j p t h1 h2 => ?_⟩
    · have R3 := (rel.free hv (σ[v]?.getD Option.none)).free hs (some (.ref D0))
      rw [wipe_back] at R3
      exact R3
    · have e : t = r := by
        rw [List.getElem?_replicate] at h2
        split at h2
        · exact (Option.some.inj h2).symm
        · cases h2
      rw [e]
      exact row p (List.mem_of_getElem? h1)
end
end JD

/-! ## K12Plain -/
set_option Elab.async false
set_option linter.all false
set_option maxRecDepth 100000
set_option maxHeartbeats 1000000
/-! k12, the plain law: least changes between rows, told on rows from behind -/
namespace K12

def dl (x y : Nat) : Nat := if x = y then 0 else 1
/-- least changes, on rows from behind -/
def L : List Nat → List Nat → Nat
  | [], b => b.length
  | x :: a, [] => a.length + 1
  | x :: a, y :: b => min (min (L a b + dl x y) (L a (y :: b) + 1)) (L (x :: a) b + 1)
termination_by a b => a.length + b.length
/-- ways of cost k -/
def F : List Nat → List Nat → Nat → Nat
  | [], b, k => if k = b.length then 1 else 0
  | x :: a, [], k => if k = a.length + 1 then 1 else 0
  | x :: a, y :: b, k => (if dl x y ≤ k then F a b (k - dl x y) else 0) + (if 1 ≤ k then F a (y :: b) (k - 1) else 0) + (if 1 ≤ k then F (x :: a) b (k - 1) else 0)
termination_by a b => a.length + b.length

theorem L_nil (b : List Nat) : L [] b = b.length := by rw [L]
theorem L_nil' (a : List Nat) : L a [] = a.length := by
  cases a with
  | nil => rw [L]
  | cons x a => rw [L]; rfl
theorem L_cons (x y : Nat) (a b : List Nat) : L (x :: a) (y :: b) = min (min (L a b + dl x y) (L a (y :: b) + 1)) (L (x :: a) b + 1) := by rw [L]
theorem F_nil (b : List Nat) (k : Nat) : F [] b k = if k = b.length then 1 else 0 := by rw [F]
theorem F_nil' (a : List Nat) (k : Nat) : F a [] k = if k = a.length then 1 else 0 := by
  cases a with
  | nil => rw [F]
  | cons x a => rw [F]; rfl
/-- shifted by d -/
def sh (d : Nat) (f : Nat → Nat) (k : Nat) : Nat := if d ≤ k then f (k - d) else 0
theorem F_cons (x y : Nat) (a b : List Nat) (k : Nat) : F (x :: a) (y :: b) k = sh (dl x y) (F a b) k + sh 1 (F a (y :: b)) k + sh 1 (F (x :: a) b) k := by rw [F]; rfl
theorem dl_comm (x y : Nat) : dl x y = dl y x := by
  unfold dl
  by_cases h : x = y
  · rw [if_pos h, if_pos h.symm]
  · rw [if_neg h, if_neg (fun z => h z.symm)]
theorem dl_le (x y : Nat) : dl x y ≤ 1 := by unfold dl; split <;> omega
theorem sh_congr {d : Nat} {f g : Nat → Nat} (h : ∀ k, f k = g k) (k : Nat) : sh d f k = sh d g k := by
  unfold sh; split
  · exact h _
  · rfl
theorem sh_add {d : Nat} {f g : Nat → Nat} (k : Nat) : sh d (fun k => f k + g k) k = sh d f k + sh d g k := by
  unfold sh; split <;> rfl
theorem sh_sh {d e : Nat} {f : Nat → Nat} (k : Nat) : sh d (sh e f) k = sh e (sh d f) k := by
  unfold sh
  by_cases h1 : d ≤ k
  · by_cases h2 : e ≤ k
    · by_cases h3 : d + e ≤ k
      · rw [if_pos h1, if_pos h2, if_pos (by omega), if_pos (by omega)]
        congr 1; omega
      · rw [if_pos h1, if_pos h2, if_neg (by omega), if_neg (by omega)]
    · rw [if_pos h1, if_neg h2, if_neg (by omega)]
  · by_cases h2 : e ≤ k
    · rw [if_neg h1, if_pos h2, if_neg (by omega)]
    · rw [if_neg h1, if_neg h2]
/-! ### the other way round -/
theorem F_comm : ∀ (n : Nat) (a b : List Nat), a.length + b.length ≤ n → ∀ k, F a b k = F b a k := by
  intro n
  induction n with
  | zero =>
    intro a b h k
    have e1 : a = [] := List.eq_nil_of_length_eq_zero (by omega)
    have e2 : b = [] := List.eq_nil_of_length_eq_zero (by omega)
    subst e1 e2; rfl
  | succ n ih =>
    intro a b h k
    cases a with
    | nil => rw [F_nil, F_nil']
    | cons x a =>
      cases b with
      | nil => rw [F_nil, F_nil']
      | cons y b =>
        simp only [List.length_cons] at h
        rw [F_cons, F_cons, dl_comm y x, sh_congr (ih a b (by omega)), sh_congr (d := 1) (ih a (y :: b) (by simp only [List.length_cons]; omega)), sh_congr (d := 1) (ih (x :: a) b (by simp only [List.length_cons]; omega))]
        omega
/-! ### read from the other end -/
def pad (f g : Nat → Nat) : Nat → Nat := fun k => f k + g k
theorem F_consF (x y : Nat) (a b : List Nat) : F (x :: a) (y :: b) = pad (pad (sh (dl x y) (F a b)) (sh 1 (F a (y :: b)))) (sh 1 (F (x :: a) b)) := funext fun k => F_cons x y a b k
theorem sh_pad (d : Nat) (f g : Nat → Nat) : sh d (pad f g) = pad (sh d f) (sh d g) := funext fun k => sh_add k
theorem sh_comm (d e : Nat) (f : Nat → Nat) : sh d (sh e f) = sh e (sh d f) := funext fun k => sh_sh k
theorem one_step {n k : Nat} : (if k = n + 1 then 1 else 0) = sh 1 (fun k => if k = n then 1 else 0) k := by
  unfold sh
  by_cases c : 1 ≤ k
  · rw [if_pos c]
    show _ = if k - 1 = n then 1 else 0
    by_cases c2 : k = n + 1
    · rw [if_pos c2, if_pos (by omega)]
    · rw [if_neg c2, if_neg (by omega)]
  · rw [if_neg c, if_neg (by omega)]
theorem F_nilC (y : Nat) (b : List Nat) : F [] (y :: b) = sh 1 (F [] b) := funext fun k => by
  rw [F_nil, List.length_cons, one_step]
  exact sh_congr (fun k => (F_nil b k).symm) k
theorem F_consN (x : Nat) (a : List Nat) : F (x :: a) [] = sh 1 (F a []) := funext fun k => by
  rw [F_nil', List.length_cons, one_step]
  exact sh_congr (fun k => (F_nil' a k).symm) k
theorem F_nilS (y : Nat) (b : List Nat) : F [] (b ++ [y]) = sh 1 (F [] b) := funext fun k => by
  rw [F_nil, List.length_append, List.length_singleton, one_step]
  exact sh_congr (fun k => (F_nil b k).symm) k
theorem F_consS (x : Nat) (a : List Nat) : F (a ++ [x]) [] = sh 1 (F a []) := funext fun k => by
  rw [F_nil', List.length_append, List.length_singleton, one_step]
  exact sh_congr (fun k => (F_nil' a k).symm) k
theorem F_snoc : ∀ (n : Nat) (a b : List Nat) (x y : Nat), a.length + b.length ≤ n → F (a ++ [x]) (b ++ [y]) = pad (pad (sh (dl x y) (F a b)) (sh 1 (F a (b ++ [y])))) (sh 1 (F (a ++ [x]) b)) := by
  intro n
  induction n with
  | zero =>
    intro a b x y h
    have e1 : a = [] := List.eq_nil_of_length_eq_zero (by omega)
    have e2 : b = [] := List.eq_nil_of_length_eq_zero (by omega)
    subst e1 e2
    exact F_consF x y [] []
  | succ n ih =>
    intro a b x y h
    cases a with
    | nil =>
      cases b with
      | nil => exact F_consF x y [] []
      | cons v b =>
        simp only [List.length_cons, List.length_nil] at h
        have i1 := ih [] b x y (by simp only [List.length_nil]; omega)
        rw [List.nil_append] at i1
        rw [List.nil_append, List.cons_append, F_consF x v [] (b ++ [y]), i1, F_consF x v [] b, F_nilC v (b ++ [y]), F_nilC v b, F_nilS]
        simp only [sh_pad]
        rw [sh_comm (dl x v) 1 (F [] b), sh_comm (dl x y) 1 (F [] b)]
        funext k
        simp only [pad]
        omega
    | cons u a =>
      cases b with
      | nil =>
        simp only [List.length_cons, List.length_nil] at h
        have i1 := ih a [] x y (by simp only [List.length_nil]; omega)
        rw [List.nil_append] at i1
        rw [List.nil_append, List.cons_append, F_consF u y (a ++ [x]) [], i1, F_consF u y a [], F_consN u (a ++ [x]), F_consN u a, F_consS]
        simp only [sh_pad]
        rw [sh_comm (dl u y) 1 (F a []), sh_comm (dl x y) 1 (F a [])]
        funext k
        simp only [pad]
        omega
      | cons v b =>
        simp only [List.length_cons] at h
        have i1 := ih a b x y (by omega)
        have i2 := ih a (v :: b) x y (by simp only [List.length_cons]; omega)
        have i3 := ih (u :: a) b x y (by simp only [List.length_cons]; omega)
        rw [List.cons_append] at i2 i3
        rw [List.cons_append, List.cons_append, F_consF u v (a ++ [x]) (b ++ [y]), i1, i2, i3, F_consF u v a b, F_consF u v a (b ++ [y]), F_consF u v (a ++ [x]) b]
        simp only [sh_pad]
        rw [sh_comm (dl u v) (dl x y), sh_comm (dl x y) 1 (F a (v :: b)), sh_comm (dl x y) 1 (F (u :: a) b), sh_comm (dl u v) 1 (F a (b ++ [y])), sh_comm (dl u v) 1 (F (a ++ [x]) b)]
        funext k
        simp only [pad]
        omega
theorem F_rev : ∀ (n : Nat) (a b : List Nat), a.length + b.length ≤ n → F a.reverse b.reverse = F a b := by
  intro n
  induction n with
  | zero =>
    intro a b h
    have e1 : a = [] := List.eq_nil_of_length_eq_zero (by omega)
    have e2 : b = [] := List.eq_nil_of_length_eq_zero (by omega)
    subst e1 e2; rfl
  | succ n ih =>
    intro a b h
    cases a with
    | nil => funext k; rw [List.reverse_nil, F_nil, F_nil, List.length_reverse]
    | cons x a =>
      cases b with
      | nil => funext k; rw [List.reverse_nil, F_nil', F_nil', List.length_reverse]
      | cons y b =>
        simp only [List.length_cons] at h
        have i1 := ih a b (by omega)
        have i2 := ih a (y :: b) (by simp only [List.length_cons]; omega)
        have i3 := ih (x :: a) b (by simp only [List.length_cons]; omega)
        rw [List.reverse_cons] at i2 i3
        rw [List.reverse_cons, List.reverse_cons, F_snoc _ _ _ x y (Nat.le_refl _), F_consF, i1, i2, i3]
/-! ### least cost and ways -/
theorem F_below : ∀ (n : Nat) (a b : List Nat), a.length + b.length ≤ n → (∀ k, k < L a b → F a b k = 0) ∧ 0 < F a b (L a b) := by
  intro n
  induction n with
  | zero =>
    intro a b h
    have e1 : a = [] := List.eq_nil_of_length_eq_zero (by omega)
    have e2 : b = [] := List.eq_nil_of_length_eq_zero (by omega)
    subst e1 e2
    rw [L_nil]
    exact ⟨fun k hk => absurd hk (Nat.not_lt_zero _), by rw [F_nil]; simp⟩
  | succ n ih =>
    intro a b h
    cases a with
    | nil =>
      rw [L_nil]
      exact ⟨fun k hk => by rw [F_nil, if_neg (by omega)], by rw [F_nil, if_pos rfl]; omega⟩
    | cons x a =>
      cases b with
      | nil =>
        rw [L_nil']
        exact ⟨fun k hk => by rw [F_nil', if_neg (by omega)], by rw [F_nil', if_pos rfl]; omega⟩
      | cons y b =>
        simp only [List.length_cons] at h
        obtain ⟨p1, q1⟩ := ih a b (by omega)
        obtain ⟨p2, q2⟩ := ih a (y :: b) (by simp only [List.length_cons]; omega)
        obtain ⟨p3, q3⟩ := ih (x :: a) b (by simp only [List.length_cons]; omega)
        have hd := dl_le x y
        rw [L_cons]
        refine ⟨fun k hk => ?_, ?_⟩
        · rw [F_cons]
          unfold sh
          have z1 : (if dl x y ≤ k then F a b (k - dl x y) else 0) = 0 := by
            split
            · exact p1 _ (by omega)
            · rfl
          have z2 : (if 1 ≤ k then F a (y :: b) (k - 1) else 0) = 0 := by
            split
            · exact p2 _ (by omega)
            · rfl
          have z3 : (if 1 ≤ k then F (x :: a) b (k - 1) else 0) = 0 := by
            split
            · exact p3 _ (by omega)
            · rfl
          omega
        · rw [F_cons]
          have g : ∀ (d : Nat) (f : Nat → Nat) (l k : Nat), k = l + d → 0 < f l → 0 < sh d f k := fun d f l k e p => by
            unfold sh
            rw [if_pos (by omega), show k - d = l by omega]; exact p
          have hm : min (min (L a b + dl x y) (L a (y :: b) + 1)) (L (x :: a) b + 1) = L a b + dl x y ∨ min (min (L a b + dl x y) (L a (y :: b) + 1)) (L (x :: a) b + 1) = L a (y :: b) + 1 ∨ min (min (L a b + dl x y) (L a (y :: b) + 1)) (L (x :: a) b + 1) = L (x :: a) b + 1 := by omega
          rcases hm with e | e | e
          · have := g (dl x y) (F a b) (L a b) _ e q1; omega
          · have := g 1 (F a (y :: b)) (L a (y :: b)) _ e q2; omega
          · have := g 1 (F (x :: a) b) (L (x :: a) b) _ e q3; omega
/-- the least cost is where the ways begin -/
theorem L_of {a b : List Nat} {m : Nat} (h0 : ∀ k, k < m → F a b k = 0) (h1 : 0 < F a b m) : L a b = m := by
  obtain ⟨p, q⟩ := F_below _ a b (Nat.le_refl _)
  by_cases c : L a b < m
  · have := h0 _ c; omega
  · by_cases c2 : m < L a b
    · have := p _ c2; omega
    · omega
theorem L_comm (a b : List Nat) : L a b = L b a := by
  obtain ⟨p, q⟩ := F_below _ b a (Nat.le_refl _)
  exact L_of (fun k hk => by rw [F_comm _ a b (Nat.le_refl _)]; exact p k hk) (by rw [F_comm _ a b (Nat.le_refl _)]; exact q)
theorem L_rev (a b : List Nat) : L a.reverse b.reverse = L a b := by
  obtain ⟨p, q⟩ := F_below _ a b (Nat.le_refl _)
  exact L_of (fun k hk => by rw [F_rev _ a b (Nat.le_refl _)]; exact p k hk) (by rw [F_rev _ a b (Nat.le_refl _)]; exact q)
/-- how many least ways -/
def W (a b : List Nat) : Nat := F a b (L a b)
theorem W_comm (a b : List Nat) : W a b = W b a := by unfold W; rw [F_comm _ a b (Nat.le_refl _), L_comm]
theorem W_rev (a b : List Nat) : W a.reverse b.reverse = W a b := by unfold W; rw [F_rev _ a b (Nat.le_refl _), L_rev]
theorem W_nil (b : List Nat) : W [] b = 1 := by unfold W; rw [L_nil, F_nil, if_pos rfl]
theorem W_nil' (a : List Nat) : W a [] = 1 := by unfold W; rw [L_nil', F_nil', if_pos rfl]
theorem sh_at {d m l : Nat} {f : Nat → Nat} (h : ∀ k, k < l → f k = 0) (hm : m ≤ l + d) : sh d f m = if l + d = m then f l else 0 := by
  unfold sh
  by_cases c : l + d = m
  · rw [if_pos (by omega), if_pos c, show m - d = l by omega]
  · rw [if_neg c]
    split
    · exact h _ (by omega)
    · rfl
theorem W_cons (x y : Nat) (a b : List Nat) : W (x :: a) (y :: b) = (if L a b + dl x y = L (x :: a) (y :: b) then W a b else 0) + (if L a (y :: b) + 1 = L (x :: a) (y :: b) then W a (y :: b) else 0) + (if L (x :: a) b + 1 = L (x :: a) (y :: b) then W (x :: a) b else 0) := by
  obtain ⟨p1, _⟩ := F_below _ a b (Nat.le_refl _)
  obtain ⟨p2, _⟩ := F_below _ a (y :: b) (Nat.le_refl _)
  obtain ⟨p3, _⟩ := F_below _ (x :: a) b (Nat.le_refl _)
  have e := L_cons x y a b
  show F (x :: a) (y :: b) _ = _
  rw [F_cons, sh_at p1 (by omega), sh_at p2 (by omega), sh_at p3 (by omega)]
  rfl
/-! ### letters left out -/
/-- how often b stands within a, letters left out (from behind) -/
def emb : List Nat → List Nat → Nat
  | _, [] => 1
  | [], _ :: _ => 0
  | x :: a, y :: b => emb a (y :: b) + (if y = x then emb a b else 0)
theorem F_len : ∀ (n : Nat) (a b : List Nat), a.length + b.length ≤ n → ∀ k, (k + b.length < a.length ∨ k + a.length < b.length) → F a b k = 0 := by
  intro n
  induction n with
  | zero => intro a b h k hk; omega
  | succ n ih =>
    intro a b h k hk
    cases a with
    | nil => rw [F_nil, if_neg (by simp at hk; omega)]
    | cons x a =>
      cases b with
      | nil => rw [F_nil', if_neg (by simp at hk ⊢; omega)]
      | cons y b =>
        simp only [List.length_cons] at h hk
        have hd := dl_le x y
        rw [F_cons]
        unfold sh
        have z1 : (if dl x y ≤ k then F a b (k - dl x y) else 0) = 0 := by
          split
          · exact ih a b (by omega) _ (by omega)
          · rfl
        have z2 : (if 1 ≤ k then F a (y :: b) (k - 1) else 0) = 0 := by
          split
          · exact ih a (y :: b) (by simp only [List.length_cons]; omega) _ (by simp only [List.length_cons]; omega)
          · rfl
        have z3 : (if 1 ≤ k then F (x :: a) b (k - 1) else 0) = 0 := by
          split
          · exact ih (x :: a) b (by simp only [List.length_cons]; omega) _ (by simp only [List.length_cons]; omega)
          · rfl
        omega
theorem emb_long : ∀ (a b : List Nat), a.length < b.length → emb a b = 0
  | _, [], h => absurd h (Nat.not_lt_zero _)
  | [], _ :: _, _ => rfl
  | x :: a, y :: b, h => by
    simp only [List.length_cons] at h
    unfold emb
    rw [emb_long a (y :: b) (by simp only [List.length_cons]; omega), emb_long a b (by omega)]
    split <;> rfl
theorem F_emb : ∀ (n : Nat) (a b : List Nat), a.length + b.length ≤ n → b.length ≤ a.length → F a b (a.length - b.length) = emb a b := by
  intro n
  induction n with
  | zero =>
    intro a b h _
    have e1 : a = [] := List.eq_nil_of_length_eq_zero (by omega)
    have e2 : b = [] := List.eq_nil_of_length_eq_zero (by omega)
    subst e1 e2
    rw [F_nil]; rfl
  | succ n ih =>
    intro a b h hl
    cases a with
    | nil =>
      have e2 : b = [] := List.eq_nil_of_length_eq_zero (by rw [List.length_nil] at hl; omega)
      subst e2; rw [F_nil]; rfl
    | cons x a =>
      cases b with
      | nil => rw [F_nil', if_pos (by simp)]; rfl
      | cons y b =>
        simp only [List.length_cons] at h hl
        have hd := dl_le x y
        have ek : (x :: a).length - (y :: b).length = a.length - b.length := by simp only [List.length_cons]; omega
        rw [ek, F_cons]
        have z3 : sh 1 (F (x :: a) b) (a.length - b.length) = 0 := by
          unfold sh
          split
          · exact F_len _ _ _ (Nat.le_refl _) _ (.inl (by simp only [List.length_cons]; omega))
          · rfl
        have z1 : sh (dl x y) (F a b) (a.length - b.length) = if y = x then emb a b else 0 := by
          by_cases c : y = x
          · rw [if_pos c]
            have e : dl x y = 0 := by unfold dl; rw [if_pos c.symm]
            rw [e]
            show (if 0 ≤ a.length - b.length then F a b (a.length - b.length - 0) else 0) = _
            rw [if_pos (Nat.zero_le _), Nat.sub_zero]
            exact ih a b (by omega) (by omega)
          · rw [if_neg c]
            have e : dl x y = 1 := by unfold dl; rw [if_neg (fun z => c z.symm)]
            rw [e]
            unfold sh
            split
            · exact F_len _ _ _ (Nat.le_refl _) _ (.inl (by omega))
            · rfl
        have z2 : sh 1 (F a (y :: b)) (a.length - b.length) = emb a (y :: b) := by
          unfold sh
          by_cases c : 1 ≤ a.length - b.length
          · rw [if_pos c]
            have q := ih a (y :: b) (by simp only [List.length_cons]; omega) (by simp only [List.length_cons]; omega)
            rw [← q]
            congr 1
          · rw [if_neg c, emb_long a (y :: b) (by simp only [List.length_cons]; omega)]
        rw [z1, z2, z3]
        show _ = emb a (y :: b) + (if y = x then emb a b else 0)
        omega
theorem left_out {a b : List Nat} (h : 0 < emb a b) : L a b = a.length - b.length ∧ W a b = emb a b := by
  have hl : b.length ≤ a.length := by
    by_cases c : b.length ≤ a.length
    · exact c
    · have := emb_long a b (by omega); omega
  have e := F_emb _ a b (Nat.le_refl _) hl
  have e2 : L a b = a.length - b.length := L_of (fun k hk => F_len _ a b (Nat.le_refl _) k (.inl (by omega))) (by omega)
  exact ⟨e2, by unfold W; rw [e2, e]⟩
theorem emb_front (x : Nat) (a b : List Nat) : emb a b ≤ emb (x :: a) (x :: b) := by
  show _ ≤ emb a (x :: b) + (if x = x then emb a b else 0)
  rw [if_pos rfl]; omega
theorem emb_fronts (c a b : List Nat) : emb a b ≤ emb (c ++ a) (c ++ b) := by
  induction c with
  | nil => exact Nat.le_refl _
  | cons x c ih => exact Nat.le_trans ih (emb_front x _ _)
theorem emb_rev (a b : List Nat) : emb a.reverse b.reverse = emb a b := by
  by_cases hl : b.length ≤ a.length
  · have h1 := F_emb _ a b (Nat.le_refl _) hl
    have h2 := F_emb _ a.reverse b.reverse (Nat.le_refl _) (by rw [List.length_reverse, List.length_reverse]; exact hl)
    rw [F_rev _ a b (Nat.le_refl _), List.length_reverse, List.length_reverse] at h2
    omega
  · rw [emb_long a b (by omega), emb_long _ _ (by rw [List.length_reverse, List.length_reverse]; omega)]
theorem emb_backs (c a b : List Nat) : emb a b ≤ emb (a ++ c) (b ++ c) := by
  rw [← emb_rev a b, ← emb_rev (a ++ c) (b ++ c), List.reverse_append, List.reverse_append]
  exact emb_fronts _ _ _
/-! ### no letter in common -/
def choose : Nat → Nat → Nat
  | _, 0 => 1
  | 0, _ + 1 => 0
  | n + 1, m + 1 => choose n m + choose n (m + 1)
theorem choose_big : ∀ (n m : Nat), n < m → choose n m = 0
  | _, 0, h => absurd h (Nat.not_lt_zero _)
  | 0, _ + 1, _ => rfl
  | n + 1, m + 1, h => by
    unfold choose
    rw [choose_big n m (by omega), choose_big n (m + 1) (by omega)]
theorem F_apart : ∀ (n : Nat) (a b : List Nat), a.length + b.length ≤ n → (∀ x ∈ a, ∀ y ∈ b, x ≠ y) → (∀ k, k < max a.length b.length → F a b k = 0) ∧ F a b (max a.length b.length) = choose (max a.length b.length) (min a.length b.length) := by
  intro n
  induction n with
  | zero =>
    intro a b h _
    have e1 : a = [] := List.eq_nil_of_length_eq_zero (by omega)
    have e2 : b = [] := List.eq_nil_of_length_eq_zero (by omega)
    subst e1 e2
    exact ⟨fun k hk => absurd hk (Nat.not_lt_zero _), by rw [F_nil]; rfl⟩
  | succ n ih =>
    intro a b h hd
    cases a with
    | nil =>
      simp only [List.length_nil]
      have e0 : max 0 b.length = b.length := by omega
      have e1 : min 0 b.length = 0 := by omega
      rw [e0, e1]
      exact ⟨fun k hk => by rw [F_nil, if_neg (by omega)], by rw [F_nil, if_pos rfl]; cases b.length <;> rfl⟩
    | cons x a =>
      cases b with
      | nil =>
        simp only [List.length_nil, List.length_cons]
        have e0 : max (a.length + 1) 0 = a.length + 1 := by omega
        have e1 : min (a.length + 1) 0 = 0 := by omega
        rw [e0, e1]
        exact ⟨fun k hk => by rw [F_nil', if_neg (by simp only [List.length_cons]; omega)], by rw [F_nil', if_pos (by simp only [List.length_cons])]; rfl⟩
      | cons y b =>
        simp only [List.length_cons] at h
        have e : dl x y = 1 := by unfold dl; rw [if_neg (hd x (List.mem_cons_self ..) y (List.mem_cons_self ..))]
        obtain ⟨p1, q1⟩ := ih a b (by omega) (fun u hu v hv => hd u (List.mem_cons_of_mem _ hu) v (List.mem_cons_of_mem _ hv))
        obtain ⟨p2, q2⟩ := ih a (y :: b) (by simp only [List.length_cons]; omega) (fun u hu v hv => hd u (List.mem_cons_of_mem _ hu) v hv)
        obtain ⟨p3, q3⟩ := ih (x :: a) b (by simp only [List.length_cons]; omega) (fun u hu v hv => hd u hu v (List.mem_cons_of_mem _ hv))
        simp only [List.length_cons] at p2 q2 p3 q3 ⊢
        have s : ∀ (f : Nat → Nat) (k : Nat), sh 1 f (k + 1) = f k := fun f k => by
          unfold sh; rw [if_pos (by omega)]; rfl
        have s0 : ∀ (f : Nat → Nat), sh 1 f 0 = 0 := fun f => by unfold sh; rw [if_neg (by omega)]
        refine ⟨fun k hk => ?_, ?_⟩
        · rw [F_cons, e]
          cases k with
          | zero => rw [s0, s0, s0]
          | succ k => rw [s, s, s, p1 k (by omega), p2 k (by omega), p3 k (by omega)]
        · have em : max (a.length + 1) (b.length + 1) = max a.length b.length + 1 := by omega
          have en : min (a.length + 1) (b.length + 1) = min a.length b.length + 1 := by omega
          rw [em, en, F_cons, e, s, s, s, q1]
          show _ = choose (max a.length b.length) (min a.length b.length) + choose (max a.length b.length) (min a.length b.length + 1)
          rcases Nat.lt_trichotomy a.length b.length with c | c | c
          · -- b longer
            have u2 : F a (y :: b) (max a.length b.length) = 0 := p2 _ (by omega)
            have u3 : F (x :: a) b (max a.length b.length) = choose (max a.length b.length) (min a.length b.length + 1) := by
              have e1 : max (a.length + 1) b.length = max a.length b.length := by omega
              have e2 : min (a.length + 1) b.length = min a.length b.length + 1 := by omega
              rw [e1, e2] at q3; exact q3
            omega
          · have u2 : F a (y :: b) (max a.length b.length) = 0 := p2 _ (by omega)
            have u3 : F (x :: a) b (max a.length b.length) = 0 := p3 _ (by omega)
            have u4 : choose (max a.length b.length) (min a.length b.length + 1) = 0 := choose_big _ _ (by omega)
            omega
          · have u3 : F (x :: a) b (max a.length b.length) = 0 := p3 _ (by omega)
            have u2 : F a (y :: b) (max a.length b.length) = choose (max a.length b.length) (min a.length b.length + 1) := by
              have e1 : max a.length (b.length + 1) = max a.length b.length := by omega
              have e2 : min a.length (b.length + 1) = min a.length b.length + 1 := by omega
              rw [e1, e2] at q2; exact q2
            omega
theorem choose_pos : ∀ (n m : Nat), m ≤ n → 0 < choose n m
  | _, 0, _ => by cases ‹Nat› <;> exact Nat.zero_lt_one
  | 0, m + 1, h => absurd h (by omega)
  | n + 1, m + 1, h => by
    have := choose_pos n m (by omega)
    show 0 < choose n m + choose n (m + 1)
    omega
theorem apart {a b : List Nat} (hd : ∀ x ∈ a, ∀ y ∈ b, x ≠ y) : L a b = max a.length b.length ∧ W a b = choose (max a.length b.length) (min a.length b.length) := by
  obtain ⟨p, q⟩ := F_apart _ a b (Nat.le_refl _) hd
  have e : L a b = max a.length b.length := L_of p (by rw [q]; exact choose_pos _ _ (by omega))
  exact ⟨e, by unfold W; rw [e, q]⟩
/-- the same row -/
theorem emb_self (a : List Nat) : 0 < emb a a := by
  induction a with
  | nil => exact Nat.zero_lt_one
  | cons x a ih => exact Nat.lt_of_lt_of_le ih (emb_front x a a)
theorem L_self (a : List Nat) : L a a = 0 := by rw [(left_out (emb_self a)).1]; omega
/-- bounds -/
theorem L_le : ∀ (n : Nat) (a b : List Nat), a.length + b.length ≤ n → L a b ≤ a.length + b.length := by
  intro n
  induction n with
  | zero =>
    intro a b h
    have e1 : a = [] := List.eq_nil_of_length_eq_zero (by omega)
    subst e1; rw [L_nil]; omega
  | succ n ih =>
    intro a b h
    cases a with
    | nil => rw [L_nil]; omega
    | cons x a =>
      cases b with
      | nil => rw [L_nil']; omega
      | cons y b =>
        simp only [List.length_cons] at h
        have := ih a (y :: b) (by simp only [List.length_cons]; omega)
        rw [L_cons]
        simp only [List.length_cons] at this ⊢
        omega
/-! ### a piece somewhere in a row (both from behind) -/
def E : List Nat → List Nat → Nat
  | [], _ => 0
  | x :: p, [] => p.length + 1
  | x :: p, y :: r => min (min (E p r + dl x y) (E (x :: p) r + 1)) (E p (y :: r) + 1)
termination_by p r => p.length + r.length
theorem E_nil (r : List Nat) : E [] r = 0 := by rw [E]
theorem E_nil' (p : List Nat) : E p [] = p.length := by
  cases p with
  | nil => rw [E]; rfl
  | cons x p => rw [E]; rfl
theorem E_cons (x y : Nat) (p r : List Nat) : E (x :: p) (y :: r) = min (min (E p r + dl x y) (E (x :: p) r + 1)) (E p (y :: r) + 1) := by rw [E]
theorem E_up : ∀ (p : List Nat) (x : Nat) (r : List Nat), E (x :: p) r ≤ E p r + 1 := by
  intro p x r
  cases r with
  | nil => rw [E_nil', E_nil']; simp
  | cons y r => rw [E_cons]; omega
theorem E_step : ∀ (p : List Nat) (y : Nat) (r : List Nat), E p (y :: r) ≤ E p r + 1 ∧ E p r ≤ E p (y :: r) + 1 := by
  intro p
  induction p with
  | nil => intro y r; rw [E_nil, E_nil]; omega
  | cons x p ih =>
    intro y r
    have h1 := ih y r
    have h2 := E_up p x r
    have hd := dl_le x y
    rw [E_cons]
    constructor
    · omega
    · have : E (x :: p) r ≤ E p r + 1 := h2
      omega
theorem E_le_L : ∀ (n : Nat) (p r s : List Nat), p.length + r.length ≤ n → E p (r ++ s) ≤ L p r := by
  intro n
  induction n with
  | zero =>
    intro p r s h
    have e1 : p = [] := List.eq_nil_of_length_eq_zero (by omega)
    subst e1; rw [E_nil]; omega
  | succ n ih =>
    intro p r s h
    cases p with
    | nil => rw [E_nil]; omega
    | cons x p =>
      cases r with
      | nil =>
        rw [List.nil_append, L_nil']
        have g : ∀ (q t : List Nat), E q t ≤ q.length := fun q => by
          induction q with
          | nil => intro t; rw [E_nil]; omega
          | cons z q ih => intro t; have := E_up q z t; have := ih t; simp only [List.length_cons]; omega
        exact g _ _
      | cons y r =>
        simp only [List.length_cons] at h
        have i1 := ih p r s (by omega)
        have i2 := ih p (y :: r) s (by simp only [List.length_cons]; omega)
        have i3 := ih (x :: p) r s (by simp only [List.length_cons]; omega)
        rw [List.cons_append] at i2 ⊢
        rw [E_cons, L_cons]
        omega
theorem E_len (q t : List Nat) : E q t ≤ q.length := by
  induction q with
  | nil => rw [E_nil]; omega
  | cons z q ih => have := E_up q z t; simp only [List.length_cons]; omega
theorem E_apart : ∀ (p r : List Nat), (∀ x ∈ p, ∀ y ∈ r, x ≠ y) → E p r = p.length := by
  intro p
  induction p with
  | nil => intro r _; rw [E_nil]; rfl
  | cons x p ih =>
    intro r
    induction r with
    | nil => intro _; rw [E_nil']
    | cons y r ihr =>
      intro hd
      have e : dl x y = 1 := by unfold dl; rw [if_neg (hd x (List.mem_cons_self ..) y (List.mem_cons_self ..))]
      rw [E_cons, e, ih r (fun u hu v hv => hd u (List.mem_cons_of_mem _ hu) v (List.mem_cons_of_mem _ hv)), ih (y :: r) (fun u hu v hv => hd u (List.mem_cons_of_mem _ hu) v hv), ihr (fun u hu v hv => hd u hu v (List.mem_cons_of_mem _ hv))]
      simp only [List.length_cons]
      omega
end K12

/-! ## K12Base -/
set_option Elab.async false
set_option linter.all false
set_option maxRecDepth 100000
set_option maxHeartbeats 2000000
namespace K12
open PySem PySem.Spec PyProof.Rows L2 JD
def top (i : Nat) : Stmt := PySem.Challenge.pw_everyrowhasit_k12_whole_changes_where_le.main.body.getD i (.Pass ⟨0, 0, 0, 0⟩)
abbrev sisUinteger : Stmt := top 9
abbrev sisUbetween : Stmt := top 10
abbrev sareUbetween : Stmt := top 11
abbrev sisUtupleUof : Stmt := top 12
abbrev sisUrowUof : Stmt := top 13
abbrev scheckUrow : Stmt := top 15
abbrev sunlikeUof : Stmt := top 24
abbrev sunlike : Stmt := top 25
abbrev sboardUof : Stmt := top 26
abbrev sstepsUback : Stmt := top 27
abbrev scheckUboard : Stmt := top 28
abbrev schangesUtold : Stmt := top 29
abbrev sleastUchanges : Stmt := top 30
abbrev showUmanyUleast : Stmt := top 31
abbrev swaysUat : Stmt := top 32
abbrev sledUby : Stmt := top 33
abbrev sisUpriced : Stmt := top 34
abbrev sisUboard : Stmt := top 35
abbrev sshowsUchanges : Stmt := top 36
abbrev slastUline : Stmt := top 37
abbrev snearlyUat : Stmt := top 38
abbrev snearestUin : Stmt := top 39
abbrev sUlawUpot : Stmt := top 41
abbrev sUlawUtake : Stmt := top 42
abbrev sUlawUof : Stmt := top 43
abbrev sUlawUcells : Stmt := top 44
abbrev sUlawUsome : Stmt := top 45
abbrev sUlawUrow : Stmt := top 46
abbrev sUlawUfound : Stmt := top 47
abbrev sUlawUchoose : Stmt := top 48
abbrev sUlawUsteps : Stmt := top 49
abbrev sUlawUisUtold : Stmt := top 50
abbrev sUlawUisUleftUoutUright : Stmt := top 51
abbrev sUlawUisUapartUright : Stmt := top 52
abbrev slaw : Stmt := top 53
/-- what the text's global names are -/
structure Fx (G : Glb) : Prop where
  f_abs : G.mg "abs" = none
  f_all : G.mg "all" = none
  f_bool : G.mg "bool" = none
  f_dict : G.mg "dict" = none
  f_enumerate : G.mg "enumerate" = none
  f_int : G.mg "int" = none
  f_isinstance : G.mg "isinstance" = none
  f_len : G.mg "len" = none
  f_list : G.mg "list" = none
  f_max : G.mg "max" = none
  f_min : G.mg "min" = none
  f_range : G.mg "range" = none
  f_repr : G.mg "repr" = none
  f_sorted : G.mg "sorted" = none
  f_str : G.mg "str" = none
  f_sum : G.mg "sum" = none
  f_tuple : G.mg "tuple" = none
  f_zip : G.mg "zip" = none
  i_MOST_ROW : ∃ t, G.mg "MOST_ROW" = some (.int 400 t)
  i_MOST_BOARD : ∃ t, G.mg "MOST_BOARD" = some (.int 60 t)
  i_THREE : ∃ t, G.mg "THREE" = some (.int 3 t)
  s_LETTERS : ∃ t, G.mg "LETTERS" = some (.str "abcdefghijklmnopqrstuvwxyz" t)
  s_KEEP : ∃ t, G.mg "KEEP" = some (.str "keep" t)
  s_TURN : ∃ t, G.mg "TURN" = some (.str "turn" t)
  s_PUT : ∃ t, G.mg "PUT" = some (.str "put" t)
  s_OUT : ∃ t, G.mg "OUT" = some (.str "out" t)
  t_STEPS : ∃ a, G.mg "STEPS" = some (.ref a) ∧ ∀ H, Dp G.K H (.ref a) (.tuple [.str "keep", .str "out", .str "put", .str "turn"])
structure As (G : Glb) : Prop where
  a_is_integer : At G "is_integer" sisUinteger
  a_is_between : At G "is_between" sisUbetween
  a_are_between : At G "are_between" sareUbetween
  a_is_tuple_of : At G "is_tuple_of" sisUtupleUof
  a_is_row_of : At G "is_row_of" sisUrowUof
  a_check_row : At G "check_row" scheckUrow
  a_unlike_of : At G "unlike_of" sunlikeUof
  a_unlike : At G "unlike" sunlike
  a_board_of : At G "board_of" sboardUof
  a_steps_back : At G "steps_back" sstepsUback
  a_check_board : At G "check_board" scheckUboard
  a_changes_told : At G "changes_told" schangesUtold
  a_least_changes : At G "least_changes" sleastUchanges
  a_how_many_least : At G "how_many_least" showUmanyUleast
  a_ways_at : At G "ways_at" swaysUat
  a_led_by : At G "led_by" sledUby
  a_is_priced : At G "is_priced" sisUpriced
  a_is_board : At G "is_board" sisUboard
  a_shows_changes : At G "shows_changes" sshowsUchanges
  a_last_line : At G "last_line" slastUline
  a_nearly_at : At G "nearly_at" snearlyUat
  a_nearest_in : At G "nearest_in" snearestUin
  a__law_pot : At G "_law_pot" sUlawUpot
  a__law_take : At G "_law_take" sUlawUtake
  a__law_of : At G "_law_of" sUlawUof
  a__law_cells : At G "_law_cells" sUlawUcells
  a__law_some : At G "_law_some" sUlawUsome
  a__law_row : At G "_law_row" sUlawUrow
  a__law_found : At G "_law_found" sUlawUfound
  a__law_choose : At G "_law_choose" sUlawUchoose
  a__law_steps : At G "_law_steps" sUlawUsteps
  a__law_is_told : At G "_law_is_told" sUlawUisUtold
  a__law_is_left_out_right : At G "_law_is_left_out_right" sUlawUisUleftUoutUright
  a__law_is_apart_right : At G "_law_is_apart_right" sUlawUisUapartUright
  a_law : At G "law" slaw
/-! ### rows, lines, boards as data -/
abbrev Row (a : List Nat) : Prop := a.length ≤ 400 ∧ ∀ c ∈ a, 97 ≤ c ∧ c ≤ 122
abbrev st (a : List Nat) : PyData := .str (S a)
abbrev ln (m : Nat) (f : Nat → Int) : PyData := .tuple ((List.range m).map fun j => .int (f j))
abbrev lnL (m : Nat) (f : Nat → Int) : PyData := .list ((List.range m).map fun j => .int (f j))
abbrev bdT (n m : Nat) (M : Nat → Nat → Int) : PyData := .tuple ((List.range n).map fun i => ln m (M i))
abbrev bdL (n m : Nat) (M : Nat → Nat → Int) : PyData := .list ((List.range n).map fun i => lnL m (M i))
/-- how many places differ -/
def unl (a b : List Nat) : Nat := ((List.range (min a.length b.length)).filter fun i => !decide ([a.getD i 0] = [b.getD i 0])).length
theorem getD_in {a : List Nat} {i : Nat} (h : i < a.length) : a.getD i 0 ∈ a := by
  rw [List.getD_eq_getElem?_getD, List.getElem?_eq_getElem h]
  exact List.getElem_mem h
theorem letters : ("abcdefghijklmnopqrstuvwxyz" : Str).cps.toList = (List.range 26).map (· + 97) := by decide +kernel
theorem letter_in {c : Nat} (h : 97 ≤ c ∧ c ≤ 122) : c ∈ ("abcdefghijklmnopqrstuvwxyz" : Str).cps.toList := by
  rw [letters]
  exact List.mem_map.mpr ⟨c - 97, List.mem_range.mpr (by omega), by omega⟩
theorem range_getD {α : Type} (n : Nat) (f : Nat → α) (x : α) {i : Nat} (h : i < n) : ((List.range n).map f).getD i x = f i := by
  rw [List.getD_eq_getElem?_getD, List.getElem?_map, List.getElem?_range h]; rfl
theorem range_at {n : Nat} (f : Nat → PyData) {i : Nat} (h : i < n) : ((List.range n).map f)[i]? = some (f i) := by
  rw [List.getElem?_map, List.getElem?_range h]; rfl
theorem Row.line {a : List Nat} (h : Row a) : a.length ≤ sizeLine := by rw [sizeLine_eq]; have := h.1; omega
/-! ### the board -/
/-- least changes of the first i letters to the first j -/
def D (a b : List Nat) (i j : Nat) : Nat := L (a.take i).reverse (b.take j).reverse
theorem take_rev {a : List Nat} {i : Nat} (h : i < a.length) : (a.take (i + 1)).reverse = a.getD i 0 :: (a.take i).reverse := by
  rw [List.take_succ, List.getD_eq_getElem?_getD, List.getElem?_eq_getElem h, List.reverse_append]; rfl
theorem D_0 (a b : List Nat) {j : Nat} (h : j ≤ b.length) : D a b 0 j = j := by
  unfold D; rw [List.take_zero, List.reverse_nil, L_nil, List.length_reverse, List.length_take]; omega
theorem D_n0 (a b : List Nat) {i : Nat} (h : i ≤ a.length) : D a b i 0 = i := by
  unfold D; rw [List.take_zero, List.reverse_nil, L_nil', List.length_reverse, List.length_take]; omega
theorem D_succ {a b : List Nat} {i j : Nat} (hi : i < a.length) (hj : j < b.length) : D a b (i + 1) (j + 1) = min (min (D a b i j + dl (a.getD i 0) (b.getD j 0)) (D a b i (j + 1) + 1)) (D a b (i + 1) j + 1) := by
  unfold D; rw [take_rev hi, take_rev hj, L_cons]
theorem D_end (a b : List Nat) : D a b a.length b.length = L a b := by unfold D; rw [List.take_length, List.take_length, L_rev]
theorem D_le (a b : List Nat) (i j : Nat) (h : i ≤ a.length) (h' : j ≤ b.length) : D a b i j ≤ i + j := by
  have q := L_le _ (a.take i).reverse (b.take j).reverse (Nat.le_refl _)
  rw [List.length_reverse, List.length_reverse, List.length_take, List.length_take] at q
  unfold D; omega
/-- int(x != y) -/
theorem dl_of (x y : Nat) : (if (!decide ([x] = [y])) = true then (1 : Int) else 0) = (dl x y : Nat) := by
  unfold dl
  by_cases h : x = y
  · subst h; simp
  · have : ¬ [x] = [y] := fun z => h (by simpa using z)
    rw [decide_eq_false this, if_neg h]; rfl
/-- the first i + 1 lines -/
def lines (a b : List Nat) (i : Nat) : List PyData := (List.range (i + 1)).map fun r => lnL (b.length + 1) fun j => (D a b r j : Nat)
theorem lines_succ (a b : List Nat) (i : Nat) : lines a b i ++ [lnL (b.length + 1) fun j => (D a b (i + 1) j : Nat)] = lines a b (i + 1) := by
  unfold lines; rw [List.range_succ (n := i + 1), List.map_append]; rfl
theorem lnL_congr {m : Nat} {f g : Nat → Int} (h : ∀ j, j < m → f j = g j) : lnL m f = lnL m g := by
  show PyData.list _ = PyData.list _
  congr 1
  exact List.map_congr_left fun j hj => by rw [h j (List.mem_range.mp hj)]
abbrev brd (a b : List Nat) : PyData := bdL (a.length + 1) (b.length + 1) fun i j => (D a b i j : Nat)
theorem line_next {a b : List Nat} {i j : Nat} (hi : i < a.length) (hj : j < b.length) : (List.range (j + 1)).map (fun q => PyData.int (D a b (i + 1) q : Nat)) ++ [PyData.int (min (min ((D a b i j : Nat) + (if (!decide ([a.getD i 0] = [b.getD j 0])) = true then (1 : Int) else 0)) ((D a b i (j + 1) : Nat) + 1)) ((D a b (i + 1) j : Nat) + 1))] = (List.range (j + 1 + 1)).map (fun q => PyData.int (D a b (i + 1) q : Nat)) := by
  rw [List.range_succ (n := j + 1), List.map_append, dl_of]
  congr 1
  show [PyData.int _] = [PyData.int _]
  have e := D_succ hi hj
  congr 2
  omega
theorem lines_zero (a b : List Nat) : [PyData.list (rgD 0 ((b.length : Int) + 1))] = lines a b 0 := by
  show _ = [lnL (b.length + 1) fun j => (D a b 0 j : Nat)]
  have e : ((b.length : Int) + 1 - 0).toNat = b.length + 1 := by omega
  unfold rgD
  rw [e]
  congr 2
  refine List.map_congr_left fun j hj => ?_
  have hj' := List.mem_range.mp hj
  show PyData.int (0 + (j : Int)) = PyData.int (D a b 0 j : Nat)
  rw [D_0 a b (by omega), Int.zero_add]
theorem rg_small {n : Nat} (h : n ≤ 1000) : RgOk 0 ((n : Int) + 1) := by unfold RgOk; omega
end K12

/-! ## K12Spec -/
set_option Elab.async false
set_option linter.all false
set_option maxRecDepth 100000
set_option maxHeartbeats 2000000
/-! k12: what the defs come to, in plain words -/
namespace K12
open PySem PySem.Spec PyProof.Rows L2 JD

inductive Step | keep | turn | put | out
deriving DecidableEq
def Step.w : Step → Str
  | .keep => "keep"
  | .turn => "turn"
  | .put => "put"
  | .out => "out"
abbrev Step.d (s : Step) : PyData := .str s.w
/-- the steps back, rows from behind -/
def sb : List Nat → List Nat → List Step
  | [], [] => []
  | [], _ :: b => .put :: sb [] b
  | _ :: a, [] => .out :: sb a []
  | x :: a, y :: b => if L a b + dl x y = L (x :: a) (y :: b) then (if x = y then Step.keep else Step.turn) :: sb a b else if L a (y :: b) + 1 = L (x :: a) (y :: b) then .out :: sb a (y :: b) else .put :: sb (x :: a) b
termination_by a b => a.length + b.length
theorem sb_nn : sb [] [] = [] := by rw [sb]
theorem sb_nc (y : Nat) (b : List Nat) : sb [] (y :: b) = .put :: sb [] b := by rw [sb]
theorem sb_cn (x : Nat) (a : List Nat) : sb (x :: a) [] = .out :: sb a [] := by rw [sb]
theorem sb_cc (x y : Nat) (a b : List Nat) : sb (x :: a) (y :: b) = if L a b + dl x y = L (x :: a) (y :: b) then (if x = y then Step.keep else Step.turn) :: sb a b else if L a (y :: b) + 1 = L (x :: a) (y :: b) then .out :: sb a (y :: b) else .put :: sb (x :: a) b := by rw [sb]
def SB (a b : List Nat) (i j : Nat) : List Step := sb (a.take i).reverse (b.take j).reverse
theorem SB_00 (a b : List Nat) : SB a b 0 0 = [] := by unfold SB; rw [List.take_zero, List.take_zero]; exact sb_nn
theorem take_nil {a : List Nat} {i : Nat} (h : i < a.length) : (a.take (i + 1)).reverse ≠ [] := by rw [take_rev h]; simp
/-- the step at a place, and what is left -/
theorem SB_diag {a b : List Nat} {i j : Nat} (hi : i < a.length) (hj : j < b.length) (h : D a b i j + dl (a.getD i 0) (b.getD j 0) = D a b (i + 1) (j + 1)) : SB a b (i + 1) (j + 1) = (if a.getD i 0 = b.getD j 0 then Step.keep else Step.turn) :: SB a b i j := by
  unfold D at h
  unfold SB
  rw [take_rev hi, take_rev hj] at h ⊢
  rw [sb_cc, if_pos h]
theorem SB_out {a b : List Nat} {i j : Nat} (hi : i < a.length) (hj : j ≤ b.length) (h0 : j = 0 ∨ ¬ (D a b i (j - 1) + dl (a.getD i 0) (b.getD (j - 1) 0) = D a b (i + 1) j)) (h : D a b i j + 1 = D a b (i + 1) j) : SB a b (i + 1) j = .out :: SB a b i j := by
  unfold SB
  rw [take_rev hi]
  cases j with
  | zero => rw [List.take_zero, List.reverse_nil, sb_cn]
  | succ j =>
    have hj' : j < b.length := by omega
    have h0' : ¬ (D a b i j + dl (a.getD i 0) (b.getD j 0) = D a b (i + 1) (j + 1)) := by
      rcases h0 with z | z
      · omega
      · exact z
    unfold D at h h0'
    rw [take_rev hi, take_rev hj'] at h0'
    rw [take_rev hi, take_rev hj'] at h
    rw [take_rev hj', sb_cc, if_neg h0', if_pos h]
theorem SB_put {a b : List Nat} {i j : Nat} (hi : i ≤ a.length) (hj : j < b.length) (h0 : i = 0 ∨ ¬ (D a b (i - 1) j + dl (a.getD (i - 1) 0) (b.getD j 0) = D a b i (j + 1))) (h : i = 0 ∨ ¬ (D a b (i - 1) (j + 1) + 1 = D a b i (j + 1))) : SB a b i (j + 1) = .put :: SB a b i j := by
  unfold SB
  rw [take_rev hj]
  cases i with
  | zero => rw [List.take_zero, List.reverse_nil, sb_nc]
  | succ i =>
    have hi' : i < a.length := by omega
    have h0' : ¬ (D a b i j + dl (a.getD i 0) (b.getD j 0) = D a b (i + 1) (j + 1)) := by
      rcases h0 with z | z
      · omega
      · exact z
    have h' : ¬ (D a b i (j + 1) + 1 = D a b (i + 1) (j + 1)) := by
      rcases h with z | z
      · omega
      · exact z
    unfold D at h' h0'
    rw [take_rev hi', take_rev hj] at h0'
    rw [take_rev hi', take_rev hj] at h'
    rw [take_rev hi', sb_cc, if_neg h0', if_neg h']
/-- where there is nothing more to turn or leave out, there is something to put in -/
theorem must_put {a b : List Nat} {i j : Nat} (hi : i ≤ a.length) (hj : j ≤ b.length) (hn : 0 < i ∨ 0 < j) (h : i = 0 ∨ ¬ (D a b (i - 1) j + 1 = D a b i j)) : 0 < j := by
  cases j with
  | succ j => omega
  | zero =>
    cases i with
    | zero => omega
    | succ i =>
      rcases h with z | z
      · omega
      · rw [D_n0 a b hi, D_n0 a b (by omega)] at z; omega
/-- the steps told -/
def stp (a b : List Nat) : List Step := (SB a b a.length b.length).reverse
abbrev told (a b : List Nat) : PyData := .tuple [.int (D a b a.length b.length : Nat), .tuple ((stp a b).map Step.d), bdT (a.length + 1) (b.length + 1) fun i j => (D a b i j : Nat)]
/-- one turn of the count of ways -/
def wayAt (a b : List Nat) (V : Nat → Nat → Int) (i j : Nat) : Int :=
  if i = 0 ∧ j = 0 then 1 else
    (if 0 < i ∧ 0 < j ∧ D a b (i - 1) (j - 1) + dl (a.getD (i - 1) 0) (b.getD (j - 1) 0) = D a b i j then V (i - 1) (j - 1) else 0) +
    (if 0 < i ∧ D a b (i - 1) j + 1 = D a b i j then V (i - 1) j else 0) + (if 0 < j ∧ D a b i (j - 1) + 1 = D a b i j then V i (j - 1) else 0)
/-- a step's move -/
def mv (p : Nat × Nat × Nat) (s : Step) : Nat × Nat × Nat := (p.1 + (if s = .put then 0 else 1), p.2.1 + (if s = .out then 0 else 1), p.2.2 + (if s = .keep then 0 else 1))
/-- may this step be made here -/
def may (a b : List Nat) (i j : Nat) : Step → Bool
  | .keep => decide (i < a.length) && decide (j < b.length) && decide (a.getD i 0 = b.getD j 0)
  | .turn => decide (i < a.length) && decide (j < b.length) && !decide (a.getD i 0 = b.getD j 0)
  | .put => decide (j < b.length)
  | .out => decide (i < a.length)
def posn (ss : List Step) (i : Nat) : Nat × Nat × Nat := (ss.take i).foldl mv (0, 0, 0)
def led (a b : List Nat) : List Step → Nat × Nat × Nat → Bool × Nat
  | [], p => (decide (p.1 = a.length) && decide (p.2.1 = b.length), p.2.2)
  | s :: ss, p => if may a b p.1 p.2.1 s then led a b ss (mv p s) else (false, p.2.2)
/-- no price too high -/
def bad1 (M : Nat → Nat → Int) (i j : Nat) : Bool := decide (0 < (i : Int)) && decide (M (i - 1) j + 1 < M i j) || decide (0 < (j : Int)) && decide (M i (j - 1) + 1 < M i j)
def bad2 (a b : List Nat) (M : Nat → Nat → Int) (i j : Nat) : Bool := decide (0 < (i : Int)) && (decide (0 < (j : Int)) && decide ((M (i - 1) (j - 1) + if (!decide ([a.getD (i - 1) 0] = [b.getD (j - 1) 0])) = true then (1 : Int) else 0) < M i j))
def okAt (a b : List Nat) (M : Nat → Nat → Int) (i j : Nat) : Bool := !bad1 M i j && !bad2 a b M i j
def priced (a b : List Nat) (M : Nat → Nat → Int) : Bool := (List.range (a.length + 1)).all fun i => (List.range (b.length + 1)).all fun j => okAt a b M i j
/-- the ends of a piece -/
def En (p r : List Nat) (j i : Nat) : Nat := E (p.take j).reverse (r.take i).reverse
theorem En_0 (p r : List Nat) (i : Nat) : En p r 0 i = 0 := by unfold En; rw [List.take_zero, List.reverse_nil, E_nil]
theorem En_n0 (p r : List Nat) {j : Nat} (h : j ≤ p.length) : En p r j 0 = j := by unfold En; rw [List.take_zero, List.reverse_nil, E_nil', List.length_reverse, List.length_take]; omega
theorem En_succ {p r : List Nat} {j i : Nat} (hj : j < p.length) (hi : i < r.length) : En p r (j + 1) (i + 1) = min (min (En p r j i + dl (p.getD j 0) (r.getD i 0)) (En p r (j + 1) i + 1)) (En p r j (i + 1) + 1) := by
  unfold En; rw [take_rev hj, take_rev hi, E_cons]
/-- where a piece nearly ends -/
def near (p r : List Nat) (most : Int) : List (Int × Int) := ((List.range (r.length + 1)).filter fun (i : Nat) => decide ((En p r p.length i : Int) ≤ most)).map fun (i : Nat) => ((i : Int), (En p r p.length i : Int))
/-! ### the steps back, turn by turn -/
abbrev Rs (a b : List Nat) (s : Nat × Nat × List Step) : List Sl := [.val (st a), .val (st b), .val (brd a b), .val (.int (s.1 : Nat)), .val (.int (s.2.1 : Nat)), .own (s.2.2.map Step.d), .un]
abbrev Gs (a b : List Nat) (s : Nat × Nat × List Step) : Prop := s.1 ≤ a.length ∧ s.2.1 ≤ b.length ∧ s.2.2 ++ SB a b s.1 s.2.1 = SB a b a.length b.length ∧ s.1 + s.2.1 + s.2.2.length ≤ a.length + b.length
theorem cast_pred {n : Nat} (h : 0 < n) : (n : Int) - 1 = ((n - 1 : Nat) : Int) := by omega
def sameB (a b : List Nat) (i j : Nat) : Bool := decide (0 < (i : Int)) && (decide (0 < (j : Int)) && decide (((D a b (i - 1) (j - 1) : Nat) : Int) + (if (!decide ([a.getD (i - 1) 0] = [b.getD (j - 1) 0])) = true then (1 : Int) else 0) = ((D a b i j : Nat) : Int)))
theorem sameB_iff {a b : List Nat} {i j : Nat} : sameB a b i j = true ↔ 0 < i ∧ 0 < j ∧ D a b (i - 1) (j - 1) + dl (a.getD (i - 1) 0) (b.getD (j - 1) 0) = D a b i j := by
  unfold sameB
  rw [dl_of]
  simp only [Bool.and_eq_true, decide_eq_true_eq]
  constructor
  · rintro ⟨h1, h2, h3⟩; exact ⟨by omega, by omega, by omega⟩
  · rintro ⟨h1, h2, h3⟩; exact ⟨by omega, by omega, by omega⟩
theorem turn_diag {a b : List Nat} {s : Nat × Nat × List Step} (g : Gs a b s) (e : sameB a b s.1 s.2.1 = true) : ∃ s' : Nat × Nat × List Step,
    ([.val (st a), .val (st b), .val (brd a b), .val (.int ((s.1 : Int) - 1)), .val (.int ((s.2.1 : Int) - 1)), .own (s.2.2.map Step.d ++ [if decide ([a.getD (s.1 - 1) 0] = [b.getD (s.2.1 - 1) 0]) = true then .str "keep" else .str "turn"]), .un] : List Sl) = Rs a b s' ∧ Gs a b s' ∧ s'.1 + s'.2.1 < s.1 + s.2.1 := by
  obtain ⟨g1, g2, g3, g4⟩ := g
  obtain ⟨e1, e2, e3⟩ := sameB_iff.mp e
  obtain ⟨i, j, f⟩ := s
  dsimp only at *
  obtain ⟨i, rfl⟩ : ∃ i', i = i' + 1 := ⟨i - 1, by omega⟩
  obtain ⟨j, rfl⟩ : ∃ j', j = j' + 1 := ⟨j - 1, by omega⟩
  rw [Nat.add_sub_cancel, Nat.add_sub_cancel] at e3
  refine ⟨(i, j, f ++ [if a.getD i 0 = b.getD j 0 then Step.keep else Step.turn]), ?_, ⟨by dsimp only; omega, by dsimp only; omega, ?_, by simp only [List.length_append, List.length_singleton]; omega⟩, by dsimp only; omega⟩
  · show _ = ([.val (st a), .val (st b), .val (brd a b), .val (.int (i : Nat)), .val (.int (j : Nat)), .own ((f ++ [if a.getD i 0 = b.getD j 0 then Step.keep else Step.turn]).map Step.d), .un] : List Sl)
    rw [cast_pred (Nat.succ_pos i), cast_pred (Nat.succ_pos j), List.map_append, Nat.add_sub_cancel, Nat.add_sub_cancel]
    refine congrArg (fun z => ([.val (st a), .val (st b), .val (brd a b), .val (.int (i : Nat)), .val (.int (j : Nat)), Sl.own (f.map Step.d ++ [z]), .un] : List Sl)) ?_
    by_cases c : a.getD i 0 = b.getD j 0
    · rw [if_pos c, if_pos (by rw [c]; simp)]; rfl
    · rw [if_neg c, if_neg (by simp only [List.cons.injEq, and_true, decide_eq_true_eq]; exact c)]; rfl
  · rw [← g3, SB_diag (by omega) (by omega) e3, List.append_assoc]; rfl
theorem turn_out {a b : List Nat} {s : Nat × Nat × List Step} (g : Gs a b s) (n : sameB a b s.1 s.2.1 = false) (e : (decide (0 < (s.1 : Int)) && decide (((D a b (s.1 - 1) s.2.1 : Nat) : Int) + 1 = ((D a b s.1 s.2.1 : Nat) : Int))) = true) : ∃ s' : Nat × Nat × List Step,
    ([.val (st a), .val (st b), .val (brd a b), .val (.int ((s.1 : Int) - 1)), .val (.int (s.2.1 : Nat)), .own (s.2.2.map Step.d ++ [.str "out"]), .un] : List Sl) = Rs a b s' ∧ Gs a b s' ∧ s'.1 + s'.2.1 < s.1 + s.2.1 := by
  obtain ⟨g1, g2, g3, g4⟩ := g
  simp only [Bool.and_eq_true, decide_eq_true_eq] at e
  obtain ⟨e1, e2⟩ := e
  have n' : ¬ (0 < s.1 ∧ 0 < s.2.1 ∧ D a b (s.1 - 1) (s.2.1 - 1) + dl (a.getD (s.1 - 1) 0) (b.getD (s.2.1 - 1) 0) = D a b s.1 s.2.1) := fun z => by rw [sameB_iff.mpr z] at n; cases n
  obtain ⟨i, j, f⟩ := s
  dsimp only at *
  obtain ⟨i, rfl⟩ : ∃ i', i = i' + 1 := ⟨i - 1, by omega⟩
  rw [Nat.add_sub_cancel] at e2 n'
  refine ⟨(i, j, f ++ [Step.out]), ?_, ⟨by dsimp only; omega, by dsimp only; omega, ?_, by simp only [List.length_append, List.length_singleton]; omega⟩, by dsimp only; omega⟩
  · show _ = ([.val (st a), .val (st b), .val (brd a b), .val (.int (i : Nat)), .val (.int (j : Nat)), .own ((f ++ [Step.out]).map Step.d), .un] : List Sl)
    rw [cast_pred (Nat.succ_pos i), List.map_append]; rfl
  · rw [← g3, SB_out (by omega) g2 (by
      cases j with
      | zero => exact .inl rfl
      | succ j => exact .inr fun z => n' ⟨by omega, by omega, z⟩) (by omega), List.append_assoc]; rfl
theorem turn_put {a b : List Nat} {s : Nat × Nat × List Step} (g : Gs a b s) (m : (decide (0 < (s.1 : Int)) || decide (0 < (s.2.1 : Int))) = true) (n : sameB a b s.1 s.2.1 = false) (e : (decide (0 < (s.1 : Int)) && decide (((D a b (s.1 - 1) s.2.1 : Nat) : Int) + 1 = ((D a b s.1 s.2.1 : Nat) : Int))) = false) : ∃ s' : Nat × Nat × List Step,
    ([.val (st a), .val (st b), .val (brd a b), .val (.int (s.1 : Nat)), .val (.int ((s.2.1 : Int) - 1)), .own (s.2.2.map Step.d ++ [.str "put"]), .un] : List Sl) = Rs a b s' ∧ Gs a b s' ∧ s'.1 + s'.2.1 < s.1 + s.2.1 := by
  obtain ⟨g1, g2, g3, g4⟩ := g
  have e' : s.1 = 0 ∨ ¬ (D a b (s.1 - 1) s.2.1 + 1 = D a b s.1 s.2.1) := by
    by_cases c : s.1 = 0
    · exact .inl c
    · refine .inr fun z => ?_
      rw [decide_eq_true (show 0 < (s.1 : Int) by omega), Bool.true_and, decide_eq_false_iff_not] at e
      exact e (by omega)
  have n' : ¬ (0 < s.1 ∧ 0 < s.2.1 ∧ D a b (s.1 - 1) (s.2.1 - 1) + dl (a.getD (s.1 - 1) 0) (b.getD (s.2.1 - 1) 0) = D a b s.1 s.2.1) := fun z => by rw [sameB_iff.mpr z] at n; cases n
  have hm : 0 < s.1 ∨ 0 < s.2.1 := by
    simp only [Bool.or_eq_true, decide_eq_true_eq] at m
    omega
  have hp := must_put g1 g2 hm e'
  obtain ⟨i, j, f⟩ := s
  dsimp only at *
  obtain ⟨j, rfl⟩ : ∃ j', j = j' + 1 := ⟨j - 1, by omega⟩
  rw [Nat.add_sub_cancel] at n'
  refine ⟨(i, j, f ++ [Step.put]), ?_, ⟨by dsimp only; omega, by dsimp only; omega, ?_, by simp only [List.length_append, List.length_singleton]; omega⟩, by dsimp only; omega⟩
  · show _ = ([.val (st a), .val (st b), .val (brd a b), .val (.int (i : Nat)), .val (.int (j : Nat)), .own ((f ++ [Step.put]).map Step.d), .un] : List Sl)
    rw [cast_pred (Nat.succ_pos j), List.map_append]; rfl
  · rw [← g3, SB_put g1 (by omega) (by
      cases i with
      | zero => exact .inl rfl
      | succ i => exact .inr fun z => n' ⟨by omega, by omega, z⟩) e', List.append_assoc]; rfl
theorem turn_end {a b : List Nat} {s : Nat × Nat × List Step} (g : Gs a b s) (m : (decide (0 < (s.1 : Int)) || decide (0 < (s.2.1 : Int))) = false) : Rs a b s = Rs a b (0, 0, SB a b a.length b.length) := by
  obtain ⟨g1, g2, g3, g4⟩ := g
  simp only [Bool.or_eq_false_iff, decide_eq_false_iff_not] at m
  obtain ⟨i, j, f⟩ := s
  dsimp only at *
  have ei : i = 0 := by omega
  have ej : j = 0 := by omega
  subst ei ej
  rw [SB_00, List.append_nil] at g3
  rw [g3]
theorem way_eq {a b : List Nat} {V : Nat → Nat → Int} {i j : Nat} (h : (decide ((i : Int) = 0) && decide ((j : Int) = 0)) = false) :
    (if (decide (0 < (i : Int)) && decide (((D a b (i - 1) j : Nat) : Int) + 1 = ((D a b i j : Nat) : Int))) = true then (if sameB a b i j = true then 0 + V (i - 1) (j - 1) else 0) + V (i - 1) j else (if sameB a b i j = true then 0 + V (i - 1) (j - 1) else 0)) +
      (if (decide (0 < (j : Int)) && decide (((D a b i (j - 1) : Nat) : Int) + 1 = ((D a b i j : Nat) : Int))) = true then V i (j - 1) else 0) = wayAt a b V i j := by
  have h0 : ¬ (i = 0 ∧ j = 0) := fun z => by rw [z.1, z.2] at h; simp at h
  unfold wayAt
  rw [if_neg h0]
  have c1 : (sameB a b i j = true) = (0 < i ∧ 0 < j ∧ D a b (i - 1) (j - 1) + dl (a.getD (i - 1) 0) (b.getD (j - 1) 0) = D a b i j) := propext sameB_iff
  have c2 : ((decide (0 < (i : Int)) && decide (((D a b (i - 1) j : Nat) : Int) + 1 = ((D a b i j : Nat) : Int))) = true) = (0 < i ∧ D a b (i - 1) j + 1 = D a b i j) := by
    rw [Bool.and_eq_true, decide_eq_true_eq, decide_eq_true_eq]
    exact propext ⟨fun z => ⟨by omega, by omega⟩, fun z => ⟨by omega, by omega⟩⟩
  have c3 : ((decide (0 < (j : Int)) && decide (((D a b i (j - 1) : Nat) : Int) + 1 = ((D a b i j : Nat) : Int))) = true) = (0 < j ∧ D a b i (j - 1) + 1 = D a b i j) := by
    rw [Bool.and_eq_true, decide_eq_true_eq, decide_eq_true_eq]
    exact propext ⟨fun z => ⟨by omega, by omega⟩, fun z => ⟨by omega, by omega⟩⟩
  simp only [c1, c2, c3]
  split <;> split <;> split <;> omega
theorem priced_no {a b : List Nat} {M : Nat → Nat → Int} {i j : Nat} (hi : i < a.length + 1) (hj : j < b.length + 1) (h : bad1 M i j = true ∨ bad2 a b M i j = true) : priced a b M = false := by
  have e : okAt a b M i j = false := by
    unfold okAt
    rcases h with h | h <;> rw [h] <;> simp
  cases c : priced a b M with
  | false => rfl
  | true =>
    unfold priced at c
    have := List.all_eq_true.mp (List.all_eq_true.mp c i (List.mem_range.mpr hi)) j (List.mem_range.mpr hj)
    rw [e] at this; cases this
theorem priced_yes {a b : List Nat} {M : Nat → Nat → Int} (h : ∀ r, r < a.length + 1 → ∀ j, j < b.length + 1 → okAt a b M r j = true) : priced a b M = true := by
  unfold priced
  exact List.all_eq_true.mpr fun r hr => List.all_eq_true.mpr fun j hj => h r (List.mem_range.mp hr) j (List.mem_range.mp hj)
theorem below_succ {P : Nat → Prop} {j : Nat} (h : ∀ r, r < j → P r) (hj : P j) : ∀ r, r < j + 1 → P r := fun r hr => by
  by_cases c : r < j
  · exact h r c
  · have e : r = j := by omega
    subst e; exact hj
/-! ### led by steps, turn by turn -/
def ledbad (a b : List Nat) (p : Nat × Nat × Nat) (s : Step) : Bool := ([PyData.str "keep", .str "turn"].any fun e => eqD e s.d) && (!(decide ((p.1 : Int) < (a.length : Nat)) && decide ((p.2.1 : Int) < (b.length : Nat))) || !decide (decide ([a.getD p.1 0] = [b.getD p.2.1 0]) = decide (s.w = "keep")))
def ledbad2 (a b : List Nat) (p : Nat × Nat × Nat) (s : Step) : Bool := decide (s.w = "out") && decide (((a.length : Nat) : Int) ≤ (p.1 : Nat)) || decide (s.w = "put") && decide (((b.length : Nat) : Int) ≤ (p.2.1 : Nat))
theorem w_keep (s : Step) : decide (s.w = "keep") = decide (s = .keep) := by cases s <;> decide +kernel
theorem w_out (s : Step) : decide (s.w = "out") = decide (s = .out) := by cases s <;> decide +kernel
theorem w_put (s : Step) : decide (s.w = "put") = decide (s = .put) := by cases s <;> decide +kernel
theorem w_in (s : Step) : ([PyData.str "keep", .str "turn"].any fun e => eqD e s.d) = (decide (s = .keep) || decide (s = .turn)) := by cases s <;> decide +kernel
theorem may_iff (a b : List Nat) (p : Nat × Nat × Nat) (s : Step) : may a b p.1 p.2.1 s = (!ledbad a b p s && !ledbad2 a b p s) := by
  unfold ledbad ledbad2
  rw [w_keep, w_out, w_put, w_in]
  have e : decide ([a.getD p.1 0] = [b.getD p.2.1 0]) = decide (a.getD p.1 0 = b.getD p.2.1 0) := by simp
  rw [e]
  have i1 : decide ((p.1 : Int) < (a.length : Nat)) = decide (p.1 < a.length) := by simp
  have i2 : decide ((p.2.1 : Int) < (b.length : Nat)) = decide (p.2.1 < b.length) := by simp
  have i3 : decide (((a.length : Nat) : Int) ≤ (p.1 : Nat)) = !decide (p.1 < a.length) := by rw [← decide_not]; exact decide_eq_decide.mpr (by omega)
  have i4 : decide (((b.length : Nat) : Int) ≤ (p.2.1 : Nat)) = !decide (p.2.1 < b.length) := by rw [← decide_not]; exact decide_eq_decide.mpr (by omega)
  rw [i1, i2, i3, i4]
  cases s <;> unfold may <;> simp only [reduceCtorEq, decide_false, decide_true, Bool.true_or, Bool.or_true, Bool.false_or, Bool.or_false, Bool.true_and, Bool.false_and, Bool.not_true, Bool.not_false, Bool.and_true] <;> cases decide (p.1 < a.length) <;> cases decide (p.2.1 < b.length) <;> cases decide (a.getD p.1 0 = b.getD p.2.1 0) <;> decide
theorem drop_at {ss : List Step} {i : Nat} (h : i < ss.length) : ss.drop i = ss.getD i .keep :: ss.drop (i + 1) := by
  rw [List.getD_eq_getElem?_getD, List.getElem?_eq_getElem h, List.drop_eq_getElem_cons h]; rfl
theorem posn_succ {ss : List Step} {i : Nat} (h : i < ss.length) : posn ss (i + 1) = mv (posn ss i) (ss.getD i .keep) := by
  unfold posn
  rw [List.take_succ, List.getD_eq_getElem?_getD, List.getElem?_eq_getElem h, List.foldl_append]; rfl
theorem led_stop {a b : List Nat} {ss : List Step} {i : Nat} {r : Bool × Nat} (h : i < ss.length) (g : led a b (ss.drop i) (posn ss i) = r) (n : ledbad a b (posn ss i) (ss.getD i .keep) = true ∨ ledbad2 a b (posn ss i) (ss.getD i .keep) = true) : r = (false, (posn ss i).2.2) := by
  rw [drop_at h] at g
  unfold led at g
  rw [may_iff] at g
  rw [← g, if_neg]
  rcases n with n | n <;> rw [n] <;> simp
theorem led_go {a b : List Nat} {ss : List Step} {i : Nat} {r : Bool × Nat} (h : i < ss.length) (g : led a b (ss.drop i) (posn ss i) = r) (n1 : ledbad a b (posn ss i) (ss.getD i .keep) = false) (n2 : ledbad2 a b (posn ss i) (ss.getD i .keep) = false) : led a b (ss.drop (i + 1)) (posn ss (i + 1)) = r := by
  rw [drop_at h] at g
  unfold led at g
  rw [may_iff, n1, n2] at g
  rw [posn_succ h]
  exact g
theorem mv_cast (n : Nat) (s : Step) (w : Str) (x : Step) (e : decide (s.w = w) = decide (s = x)) : (n : Int) + (if (!decide (s.w = w)) = true then (1 : Int) else 0) = ((n + (if s = x then 0 else 1) : Nat) : Int) := by
  rw [e]
  by_cases c : s = x
  · rw [decide_eq_true c, if_pos c]; simp
  · rw [decide_eq_false c, if_neg c]; simp
theorem led_turn {a b : List Nat} {ss : List Step} {i : Nat} (h : i < ss.length) : ([.val (st a), .val (st b), .val (.tuple (ss.map Step.d)), .val (.int (((posn ss i).1 : Int) + (if (!decide ((ss.getD i .keep).w = "put")) = true then (1 : Int) else 0))), .val (.int (((posn ss i).2.1 : Int) + (if (!decide ((ss.getD i .keep).w = "out")) = true then (1 : Int) else 0))), .val (.int (((posn ss i).2.2 : Int) + (if (!decide ((ss.getD i .keep).w = "keep")) = true then (1 : Int) else 0))), .un, .un] : List Sl) =
    [.val (st a), .val (st b), .val (.tuple (ss.map Step.d)), .val (.int ((posn ss (i + 1)).1 : Nat)), .val (.int ((posn ss (i + 1)).2.1 : Nat)), .val (.int ((posn ss (i + 1)).2.2 : Nat)), .un, .un] := by
  rw [posn_succ h, mv_cast _ _ _ _ (w_put _), mv_cast _ _ _ _ (w_out _), mv_cast _ _ _ _ (w_keep _)]; rfl
theorem led_last {a b : List Nat} {ss : List Step} {r : Bool × Nat} (g : led a b (ss.drop ss.length) (posn ss ss.length) = r) : (decide ((((posn ss ss.length).1 : Nat) : Int) = (a.length : Nat)) && decide ((((posn ss ss.length).2.1 : Nat) : Int) = (b.length : Nat))) = r.1 ∧ (posn ss ss.length).2.2 = r.2 := by
  rw [List.drop_length] at g
  unfold led at g
  rw [← g]
  refine ⟨?_, rfl⟩
  have i1 : decide ((((posn ss ss.length).1 : Nat) : Int) = (a.length : Nat)) = decide ((posn ss ss.length).1 = a.length) := decide_eq_decide.mpr (by omega)
  have i2 : decide ((((posn ss ss.length).2.1 : Nat) : Int) = (b.length : Nat)) = decide ((posn ss ss.length).2.1 = b.length) := decide_eq_decide.mpr (by omega)
  rw [i1, i2]
/-! ### a board of the right size -/
theorem len_is {n m : Nat} (f : Nat → PyData) : decide ((((List.range (n + 1)).map f).length : Int) = (m : Nat) + 1) = decide (n = m) := by
  rw [List.length_map, List.length_range]
  by_cases c : n = m
  · subst c; simp
  · rw [decide_eq_false c, decide_eq_false (by omega)]
theorem all_const (n : Nat) (x : Bool) : ((List.range (n + 1)).all fun _ => x) = x := by
  cases x with
  | true => exact List.all_eq_true.mpr fun _ _ => rfl
  | false =>
    rw [List.all_eq_false]
    exact ⟨0, List.mem_range.mpr (Nat.succ_pos n), by simp⟩
/-- what shows_changes says -/
def shown (a b : List Nat) (n m : Nat) (M : Nat → Nat → Int) (ss : List Step) (v : Int) : Bool :=
  (led a b ss (0, 0, 0)).1 && decide (((led a b ss (0, 0, 0)).2 : Int) = v) && (decide (n = a.length) && decide (m = b.length)) && (priced a b M && decide (M n m = v))
end K12

/-! ## K12W1 -/
set_option Elab.async false
set_option linter.all false
set_option maxRecDepth 100000
set_option maxHeartbeats 4000000
namespace K12
open PySem PySem.Spec PyProof.Rows L2 JD

/-! ### is_integer -/
theorem sc_is_integer : FnScope ["value"] ["value"] (defScope sisUinteger) := ⟨rfl, rfl, rfl, by decide +kernel, rfl, by decide +kernel, by decide +kernel⟩
abbrev R_is_integer : Says := fun π as d π' => ∃ v : Int, as = [.d (.int v)] ∧ d = .bool true ∧ π' = π
theorem D_is_integer {G : Glb} (T : Fx G) (A : As G) : Df G 1 "is_integer" ["value"] R_is_integer := by
  refine mkDf A.a_is_integer sc_is_integer (fun π as d π' h => by obtain ⟨v, rfl, rfl, rfl⟩ := h; rfl) (fun _ _ _ _ _ _ us hl => match us, hl with | [_], _ => rfl) fun X c π as d π' h => ?_
  obtain ⟨v, rfl, rfl, rfl⟩ := h
  refine' ⟨_, jss_one (js_ret (je_and (je_isinst (Tn := "int") c (je_var c 0) T.f_isinstance T.f_int (fun _ => kit_int _)) (je_one (je_not (je_isinst (Tn := "bool") c (je_var c 0) T.f_isinstance T.f_bool (fun _ => kit_bool _))))) (fun q => ?h1))⟩
  case h1 => -- return isinstance(value, int) and (not isinstance(value, bool))
    exact ⟨rfl, rfl⟩
/-! ### is_between -/
theorem sc_is_between : FnScope ["value", "low", "high"] ["value", "low", "high"] (defScope sisUbetween) := ⟨rfl, rfl, rfl, by decide +kernel, rfl, by decide +kernel, by decide +kernel⟩
abbrev R_is_between : Says := fun π as d π' => ∃ v lo hi : Int, as = [.d (.int v), .d (.int lo), .d (.int hi)] ∧ d = .bool (decide (lo ≤ v) && decide (v ≤ hi)) ∧ π' = π
theorem D_is_between {G : Glb} (T : Fx G) (A : As G) : Df G 2 "is_between" ["value", "low", "high"] R_is_between := by
  refine mkDf A.a_is_between sc_is_between (fun π as d π' h => by obtain ⟨v, lo, hi, rfl, rfl, rfl⟩ := h; rfl) (fun _ _ _ _ _ _ us hl => match us, hl with | [_, _, _], _ => rfl) fun X c π as d π' h => ?_
  obtain ⟨v, lo, hi, rfl, rfl, rfl⟩ := h
  refine' ⟨_, jss_one (js_ret (je_and (je_call c ((D_is_integer T A).mono (by decide)) (ja_cons (je_var c 0) (ja_nil)) (fun q => ⟨v, rfl, rfl, rfl⟩)) (je_one (je_chain op_le op_le (fun q => rv_le) (fun q => rv_le) (je_var c 1) (je_var c 0) (je_var c 2)))) (fun q => ?h1))⟩
  case h1 => -- return is_integer(value) and low <= value <= high
    exact ⟨by rw [Bool.true_and], rfl⟩
/-! ### are_between -/
theorem sc_are_between : FnScope ["value", "low", "high", "one"] ["value", "low", "high"] (defScope sareUbetween) := ⟨rfl, rfl, rfl, by decide +kernel, rfl, by decide +kernel, by decide +kernel⟩
abbrev R_are_between : Says := fun π as d π' => ∃ (n : Nat) (f : Nat → Int) (lo hi : Int), n ≤ 1000 ∧ as = [.d (ln n f), .d (.int lo), .d (.int hi)] ∧ d = .bool ((List.range n).all fun j => decide (lo ≤ f j) && decide (f j ≤ hi)) ∧ π' = π
theorem D_are_between {G : Glb} (T : Fx G) (A : As G) : Df G 3 "are_between" ["value", "low", "high"] R_are_between := by
  refine mkDf A.a_are_between sc_are_between (fun π as d π' h => by obtain ⟨n, f, lo, hi, hn, rfl, rfl, rfl⟩ := h; rfl) (fun _ _ _ _ _ _ us hl => match us, hl with | [_, _, _], _ => rfl) fun X c π as d π' h => ?_
  obtain ⟨n, f, lo, hi, hn, rfl, rfl, rfl⟩ := h
  refine' ⟨_, jss_one (js_ret (je_and (je_isinst (Tn := "tuple") c (je_var c 0) T.f_isinstance T.f_tuple (fun _ => kit_tuple _)) (je_one (je_callB c (o_all c) T.f_all (fun _ => rc_allF) (ds := [_]) (ja_cons (JLc.je c (jlc_map (j := 3) c (ji_tupR (je_var c 0) c) (fun q => ?h1) (fun Y cY i => je_call cY ((D_is_between T A).mono (by decide)) (ja_cons (je_var cY 3) (ja_cons (je_var cY 1) (ja_cons (je_var cY 2) (ja_nil)))) (fun q => ⟨f i, lo, hi, rfl, rfl, rfl⟩)))) (ja_nil))))) (fun q => ?h2))⟩
  case h1 => -- few items
    omega
  case h2 => -- return isinstance(value, tuple) and all([is_between(one, low, high) for one in value])
    exact ⟨by rw [show isT (ln n f) = true from rfl, Bool.true_and], rfl⟩
/-! ### is_tuple_of -/
theorem sc_is_tuple_of : FnScope ["value", "many"] ["value", "many"] (defScope sisUtupleUof) := ⟨rfl, rfl, rfl, by decide +kernel, rfl, by decide +kernel, by decide +kernel⟩
abbrev R_is_tuple_of : Says := fun π as d π' => ∃ (ds : List PyData) (m : Int), as = [.d (.tuple ds), .d (.int m)] ∧ d = .bool (decide ((ds.length : Int) = m)) ∧ π' = π
theorem D_is_tuple_of {G : Glb} (T : Fx G) (A : As G) : Df G 1 "is_tuple_of" ["value", "many"] R_is_tuple_of := by
  refine mkDf A.a_is_tuple_of sc_is_tuple_of (fun π as d π' h => by obtain ⟨ds, m, rfl, rfl, rfl⟩ := h; rfl) (fun _ _ _ _ _ _ us hl => match us, hl with | [_, _], _ => rfl) fun X c π as d π' h => ?_
  obtain ⟨ds, m, rfl, rfl, rfl⟩ := h
  refine' ⟨_, jss_one (js_ret (je_and (je_isinst (Tn := "tuple") c (je_var c 0) T.f_isinstance T.f_tuple (fun _ => kit_tuple _)) (je_one (je_cmp op_eq (fun q => rv_eqI) (je_callB c (c_lenL c) T.f_len (fun _ => rc_lenT) (ds := [_]) (ja_cons (je_var c 0) (ja_nil))) (je_var c 1)))) (fun q => ?h1))⟩
  case h1 => -- return isinstance(value, tuple) and len(value) == many
    exact ⟨by rw [show isT (PyData.tuple ds) = true from rfl, Bool.true_and], rfl⟩
/-! ### is_row_of -/
theorem sc_is_row_of : FnScope ["value", "sign"] ["value"] (defScope sisUrowUof) := ⟨rfl, rfl, rfl, by decide +kernel, rfl, by decide +kernel, by decide +kernel⟩
abbrev R_is_row_of : Says := fun π as d π' => ∃ a, Row a ∧ as = [.d (st a)] ∧ d = .bool true ∧ π' = π
theorem D_is_row_of {G : Glb} (T : Fx G) (A : As G) : Df G 1 "is_row_of" ["value"] R_is_row_of := by
  refine mkDf A.a_is_row_of sc_is_row_of (fun π as d π' h => by obtain ⟨a, hr, rfl, rfl, rfl⟩ := h; rfl) (fun _ _ _ _ _ _ us hl => match us, hl with | [_], _ => rfl) fun X c π as d π' h => ?_
  obtain ⟨a, hr, rfl, rfl, rfl⟩ := h
  refine' ⟨_, jss_one (js_ret (je_and (je_isinst (Tn := "str") c (je_var c 0) T.f_isinstance T.f_str (fun _ => kit_str _)) (je_and (je_cmp op_le (fun q => rv_le) (je_callB c call_len_str T.f_len (fun q => rc_lenS ?h1) (ds := [_]) (ja_cons (je_var c 0) (ja_nil))) (je_gint c T.i_MOST_ROW)) (je_one (je_callB c (o_all c) T.f_all (fun _ => rc_allF) (ds := [_]) (ja_cons (JLc.je c (jlc_map (j := 1) c (ji_strS (je_var c 0)) (fun q => ?h2) (fun Y cY i => je_cmp op_in_sign (fun q => rv_inSign) (je_var cY 1) (je_gstr cY T.s_LETTERS)))) (ja_nil)))))) (fun q => ?h3))⟩
  case h1 => -- length
    first | exact ha.line | exact hb.line | exact hr.line
  case h2 => -- few items
    first | (have := ha.1; have := hb.1; simp only [] at *; omega) | (have := hr.1; omega) | omega
  case h3 => -- return isinstance(value, str) and len(value) <= MOST_ROW and all([sign in LETTERS for sign in value])
    refine ⟨?_, rfl⟩
    have h1 : decide ((a.length : Int) ≤ 400) = true := decide_eq_true (by have := hr.1; omega)
    have h2 : ((List.range a.length).all fun i => decide (a.getD i 0 ∈ ("abcdefghijklmnopqrstuvwxyz" : Str).cps.toList)) = true := List.all_eq_true.mpr fun i hi => decide_eq_true (letter_in (hr.2 _ (getD_in (List.mem_range.mp hi))))
    rw [h1, h2]; rfl
/-! ### check_row -/
theorem sc_check_row : FnScope ["value"] ["value"] (defScope scheckUrow) := ⟨rfl, rfl, rfl, by decide +kernel, rfl, by decide +kernel, by decide +kernel⟩
abbrev R_check_row : Says := fun π as d π' => ∃ a, Row a ∧ as = [.d (st a)] ∧ d = .none ∧ π' = π
theorem D_check_row {G : Glb} (T : Fx G) (A : As G) : Df G 2 "check_row" ["value"] R_check_row := by
  refine mkDf A.a_check_row sc_check_row (fun π as d π' h => by obtain ⟨a, hr, rfl, rfl, rfl⟩ := h; rfl) (fun _ _ _ _ _ _ us hl => match us, hl with | [_], _ => rfl) fun X c π as d π' h => ?_
  obtain ⟨a, hr, rfl, rfl, rfl⟩ := h
  refine' ⟨_, jss_if (jt_not (jt_val (je_call c ((D_is_row_of T A).mono (by decide)) (ja_cons (je_var c 0) (ja_nil)) (fun q => ⟨a, hr, rfl, rfl, rfl⟩))))
    (jss_never (fun q => ?h1))
    (jss_nil (fun q => ⟨rfl, rfl⟩))⟩
  case h1 => -- never
    exact absurd q.2 (by decide)
/-! ### unlike_of -/
theorem sc_unlike_of : FnScope ["one", "other", "mine", "its"] ["one", "other"] (defScope sunlikeUof) := ⟨rfl, rfl, rfl, by decide +kernel, rfl, by decide +kernel, by decide +kernel⟩
abbrev R_unlike_of : Says := fun π as d π' => ∃ a b, Row a ∧ Row b ∧ as = [.d (st a), .d (st b)] ∧ d = .int (unl a b : Nat) ∧ π' = π
theorem D_unlike_of {G : Glb} (T : Fx G) (A : As G) : Df G 1 "unlike_of" ["one", "other"] R_unlike_of := by
  refine mkDf A.a_unlike_of sc_unlike_of (fun π as d π' h => by obtain ⟨a, b, ha, hb, rfl, rfl, rfl⟩ := h; rfl) (fun _ _ _ _ _ _ us hl => match us, hl with | [_, _], _ => rfl) fun X c π as d π' h => ?_
  obtain ⟨a, b, ha, hb, rfl, rfl, rfl⟩ := h
  refine' ⟨_, jss_one (js_ret (je_callB c (c_lenL c) T.f_len (fun _ => rc_lenL) (ds := [_]) (ja_cons (JLc.je c (jlc_filter2 (j := 2) (l := 3) c (ji_zipS c (je_var c 0) (je_var c 1) T.f_zip) (fun q => ?h1) (fun Y cY i => jt_cmp op_ne (fun q => rv_neC) (je_var cY 2) (je_var cY 3)) (fun Y cY i => je_int))) (ja_nil))) (fun q => ?h2))⟩
  case h1 => -- few items
    have := ha.1; omega
  case h2 => -- return len([1 for mine, its in zip(one, other) if mine != its])
    exact ⟨by unfold given unl; rw [List.length_map], rfl⟩
/-! ### unlike -/
theorem sc_unlike : FnScope ["one", "other"] ["one", "other"] (defScope sunlike) := ⟨rfl, rfl, rfl, by decide +kernel, rfl, by decide +kernel, by decide +kernel⟩
abbrev R_unlike : Says := fun π as d π' => ∃ a b, Row a ∧ Row b ∧ a.length = b.length ∧ as = [.d (st a), .d (st b)] ∧ d = .int (unl a b : Nat) ∧ π' = π
theorem D_unlike {G : Glb} (T : Fx G) (A : As G) : Df G 3 "unlike" ["one", "other"] R_unlike := by
  refine mkDf A.a_unlike sc_unlike (fun π as d π' h => by obtain ⟨a, b, ha, hb, hl, rfl, rfl, rfl⟩ := h; rfl) (fun _ _ _ _ _ _ us hl => match us, hl with | [_, _], _ => rfl) fun X c π as d π' h => ?_
  obtain ⟨a, b, ha, hb, hl, rfl, rfl, rfl⟩ := h
  refine' ⟨_, jss_cons (js_drop (je_call c ((D_check_row T A).mono (by decide)) (ja_cons (je_var c 0) (ja_nil)) (fun q => ⟨a, ha, rfl, rfl, rfl⟩)) (fun _ => ⟨rfl, rfl⟩)) <|
    jss_cons (js_drop (je_call c ((D_check_row T A).mono (by decide)) (ja_cons (je_var c 1) (ja_nil)) (fun q => ⟨b, hb, rfl, rfl, rfl⟩)) (fun _ => ⟨rfl, rfl⟩)) <|
    jss_if (jt_cmp op_ne (fun q => rv_neI) (je_callB c call_len_str T.f_len (fun q => rc_lenS ?h1) (ds := [_]) (ja_cons (je_var c 0) (ja_nil))) (je_callB c call_len_str T.f_len (fun q => rc_lenS ?h2) (ds := [_]) (ja_cons (je_var c 1) (ja_nil))))
    (jss_never (fun q => ?h3))
    (jss_one (js_ret (je_call c ((D_unlike_of T A).mono (by decide)) (ja_cons (je_var c 0) (ja_cons (je_var c 1) (ja_nil))) (fun q => ⟨a, b, ha, hb, rfl, rfl, rfl⟩)) (fun q => ?h4)))⟩
  case h1 => -- length
    first | exact ha.line | exact hb.line | exact hr.line
  case h2 => -- length
    first | exact ha.line | exact hb.line | exact hr.line
  case h3 => -- never
    exact absurd q.2 (by rw [hl]; simp)
  case h4 => -- return unlike_of(one, other)
    first | exact ⟨rfl, rfl⟩
end K12

/-! ## K12W2 -/
set_option Elab.async false
set_option linter.all false
set_option maxRecDepth 100000
set_option maxHeartbeats 4000000
namespace K12
open PySem PySem.Spec PyProof.Rows L2 JD

/-! ### board_of -/
theorem sc_board_of : FnScope ["one", "other", "board", "at", "letter", "ahead", "line", "to", "its"] ["one", "other"] (defScope sboardUof) := ⟨rfl, rfl, rfl, by decide +kernel, rfl, by decide +kernel, by decide +kernel⟩
abbrev R_board_of : Says := fun π as d π' => ∃ a b, Row a ∧ Row b ∧ as = [.d (st a), .d (st b)] ∧ d = brd a b ∧ π' = π
theorem D_board_of {G : Glb} (T : Fx G) (A : As G) : Df G 1 "board_of" ["one", "other"] R_board_of := by
  refine mkDf A.a_board_of sc_board_of (fun π as d π' h => by obtain ⟨a, b, ha, hb, rfl, rfl, rfl⟩ := h; rfl) (fun _ _ _ _ _ _ us hl => match us, hl with | [_, _], _ => rfl) fun X c π as d π' h => ?_
  obtain ⟨a, b, ha, hb, rfl, rfl, rfl⟩ := h
  refine' ⟨_, jss_cons (js_asgL c 2 (jl_lst (ds := [_]) (ja_cons (JL.je (jl_listRg c (je_op op_add (fun _ => rv_add) (je_callB c call_len_str T.f_len (fun q => rc_lenS ?h1) (ds := [_]) (ja_cons (je_var c 1) (ja_nil))) (je_int)) (fun q => ?h2) T.f_range T.f_list)) (ja_nil)) (by show 1 ≤ sizeLine; decide))) <|
    jss_cons (js_for c [3, 4, 5, 6, 7, 8] (fun i => [.val (st a), .val (st b), .own (lines a b i), .un, .un, .un, .un, .un, .un]) (fun i => [.val (st a), .val (st b), .own (lines a b i), .val (.int (i : Int)), .val (st [a.getD i 0]), .un, .un, .un, .un]) (fun _ => π') (fun i => i ≤ a.length) (ji_enumS c (je_var c 0) T.f_enumerate) (pg2G c 3 4) (fun q => ?h14) (fun _ => eg_tup2)
    (fun i => jss_cons (js_par_dl c 5 6 (je_ixOwn c 2 (je_un un_neg (fun _ => ru_neg) (je_int)) (fun q => own_last)) (jl_lst (ds := [_]) (ja_cons (je_op op_add (fun _ => rv_add) (je_var c 3) (je_int)) (ja_nil)) (by show 1 ≤ sizeLine; decide)) (fun env h => by unfold swappedStores Env.blockKind Env.kindOf; rw [h]; rfl)) <|
    jss_cons (js_for c [7, 8] (fun j => [.val (st a), .val (st b), .own (lines a b i), .val (.int (i : Int)), .val (st [a.getD i 0]), .val (lnL (b.length + 1) fun j => (D a b i j : Nat)), .own ((List.range (j + 1)).map fun q => .int (D a b (i + 1) q : Nat)), .un, .un]) (fun j => [.val (st a), .val (st b), .own (lines a b i), .val (.int (i : Int)), .val (st [a.getD i 0]), .val (lnL (b.length + 1) fun j => (D a b i j : Nat)), .own ((List.range (j + 1)).map fun q => .int (D a b (i + 1) q : Nat)), .val (.int (j : Int)), .val (st [b.getD j 0])]) (fun _ => π') (fun j => j ≤ b.length) (ji_enumS c (je_var c 1) T.f_enumerate) (pg2G c 7 8) (fun q => ?h11) (fun _ => eg_tup2)
    (fun j => jss_cons (js_append c 6 (je_callB c (call_min3Nu c.calm) T.f_min (fun _ => rc_min3) (ds := [_, _, _]) (ja_cons (je_op op_add (fun _ => rv_add) (je_ix (o_ixL c) (fun q => rv_ixLR (i := j) ?h3 ?h4) (je_var c 5) (je_var c 7)) (je_callTy c call_int1 T.f_int (fun _ => rc_intB) (ds := [_]) (ja_cons (je_cmp op_ne (fun q => rv_neC) (je_var c 4) (je_var c 8)) (ja_nil)))) (ja_cons (je_op op_add (fun _ => rv_add) (je_ix (o_ixL c) (fun q => rv_ixLR (i := j + 1) ?h5 ?h6) (je_var c 5) (je_op op_add (fun _ => rv_add) (je_var c 7) (je_int))) (je_int)) (ja_cons (je_op op_add (fun _ => rv_add) (je_ixOwn c 6 (je_var c 7) (fun q => own_at (i := j) ?h7 ?h8)) (je_int)) (ja_nil))))) (hz := (fun q => ?h9))) <|
    jss_nil (fun q => ?h10))
    (fun q gq => ⟨rfl, rfl⟩)) <|
    js_freeze 6 rfl <| jss_cons (js_append c 2 (je_var c 6) (hz := (fun q => ?h12))) <|
    jss_nil (fun q => ?h13))
    (fun q gq => ⟨rfl, rfl⟩)) <|
    js_freeze 2 rfl <| jss_one (js_ret (je_var c 2) (fun q => ?h15))⟩
  case h1 => -- length
    first | exact ha.line | exact hb.line | exact hr.line
  case h2 => -- range ok
    exact rg_small (by have := hb.1; omega)
  case h3 => -- is to
    first | rfl | omega | (simp only [decide_eq_true_eq, Bool.and_eq_true, Bool.or_eq_true] at q; omega)
  case h4 => -- below, ahead[to]
    first | omega | (simp only [decide_eq_true_eq, Bool.and_eq_true, Bool.or_eq_true] at q; omega)
  case h5 => -- is to + 1
    first | rfl | omega | (simp only [decide_eq_true_eq, Bool.and_eq_true, Bool.or_eq_true] at q; omega)
  case h6 => -- below, ahead[to + 1]
    first | omega | (simp only [decide_eq_true_eq, Bool.and_eq_true, Bool.or_eq_true] at q; omega)
  case h7 => -- is to
    first | rfl | omega | (simp only [decide_eq_true_eq, Bool.and_eq_true, Bool.or_eq_true] at q; omega)
  case h8 => -- below, line[to]
    first | omega | (simp only [decide_eq_true_eq, Bool.and_eq_true, Bool.or_eq_true] at q; omega)
  case h9 => -- size
    rw [List.length_map, List.length_range, sizeLine_eq]; have := hb.1; omega
  case h10 => -- turn
    exact ⟨congrArg (fun z => ([_, _, _, _, _, _, Sl.own z, Sl.un, Sl.un] : List Sl)) (line_next q.1.2.1 q.2.1), rfl, q.2.1⟩
  case h11 => -- start
    refine ⟨?_, rfl, Nat.zero_le _⟩
    exact congrArg (fun z => ([_, _, _, _, _, _, Sl.own z, Sl.un, Sl.un] : List Sl)) (by
      show [PyData.int ((i : Int) + 1)] = [PyData.int (D a b (i + 1) 0 : Nat)]
      rw [D_n0 a b (Nat.succ_le_of_lt q.2.1)]; rfl)
  case h12 => -- size
    unfold lines; rw [List.length_map, List.length_range, sizeLine_eq]; have := ha.1; omega
  case h13 => -- turn
    exact ⟨congrArg (fun z => ([_, _, Sl.own z, Sl.un, Sl.un, Sl.un, Sl.un, Sl.un, Sl.un] : List Sl)) (lines_succ a b i), rfl, q.2.1⟩
  case h14 => -- start
    exact ⟨congrArg (fun z => ([_, _, Sl.own z, Sl.un, Sl.un, Sl.un, Sl.un, Sl.un, Sl.un] : List Sl)) (lines_zero a b), rfl, Nat.zero_le _⟩
  case h15 => -- return board
    first | exact ⟨rfl, rfl⟩
/-! ### steps_back -/
theorem sc_steps_back : FnScope ["one", "other", "board", "at", "to", "found", "same"] ["one", "other", "board"] (defScope sstepsUback) := ⟨rfl, rfl, rfl, by decide +kernel, rfl, by decide +kernel, by decide +kernel⟩
abbrev R_steps_back : Says := fun π as d π' => ∃ a b, Row a ∧ Row b ∧ as = [.d (st a), .d (st b), .d (brd a b)] ∧ d = .list ((SB a b a.length b.length).map Step.d) ∧ π' = π
theorem D_steps_back {G : Glb} (T : Fx G) (A : As G) : Df G 1 "steps_back" ["one", "other", "board"] R_steps_back := by
  refine mkDf A.a_steps_back sc_steps_back (fun π as d π' h => by obtain ⟨a, b, ha, hb, rfl, rfl, rfl⟩ := h; rfl) (fun _ _ _ _ _ _ us hl => match us, hl with | [_, _, _], _ => rfl) fun X c π as d π' h => ?_
  obtain ⟨a, b, ha, hb, rfl, rfl, rfl⟩ := h
  refine' ⟨_, jss_cons (js_par3_ddl c 3 4 5 (je_callB c call_len_str T.f_len (fun q => rc_lenS ?h1) (ds := [_]) (ja_cons (je_var c 0) (ja_nil))) (je_callB c call_len_str T.f_len (fun q => rc_lenS ?h2) (ds := [_]) (ja_cons (je_var c 1) (ja_nil))) (jl_lst (ds := []) (ja_nil) (by show 0 ≤ sizeLine; decide)) (fun env h => by unfold swappedStores Env.blockKind Env.kindOf; rw [h]; rfl)) <|
    jss_cons (ρ1 := [.val (st a), .val (st b), .val (brd a b), .val (.int (0 : Nat)), .val (.int (0 : Nat)), .own ((SB a b a.length b.length).map Step.d), .un]) (js_while c (a.length, b.length, ([] : List Step)) [6] (fun s => [.val (st a), .val (st b), .val (brd a b), .val (.int (s.1 : Nat)), .val (.int (s.2.1 : Nat)), .own (s.2.2.map Step.d), .un]) (fun s => s.1 ≤ a.length ∧ s.2.1 ≤ b.length ∧ s.2.2 ++ SB a b s.1 s.2.1 = SB a b a.length b.length ∧ s.1 + s.2.1 + s.2.2.length ≤ a.length + b.length) (fun s => s.1 + s.2.1) (fun s => decide (0 < (s.1 : Int)) || decide (0 < (s.2.1 : Int))) (fun q => ?h37)
    (fun s => JW.jt (jw_or (jt_cmp op_gt (fun q => rv_gt) (je_var c 3) (je_int)) (jw_or1 (jt_cmp op_gt (fun q => rv_gt) (je_var c 4) (je_int)))))
    (fun s => jss_cons (js_asg c 6 (je_and (je_cmp op_gt (fun q => rv_gt) (je_var c 3) (je_int)) (je_and (je_cmp op_gt (fun q => rv_gt) (je_var c 4) (je_int)) (je_one (je_cmp op_eq (fun q => rv_eqI) (je_op op_add (fun _ => rv_add) (je_ix (o_ixL c) (fun q => rv_ixLR (i := s.2.1 - 1) ?h5 ?h6) (je_ix (o_ixL c) (fun q => rv_ixLR (i := s.1 - 1) ?h3 ?h4) (je_var c 2) (je_op op_sub (fun _ => rv_sub) (je_var c 3) (je_int))) (je_op op_sub (fun _ => rv_sub) (je_var c 4) (je_int))) (je_callTy c call_int1 T.f_int (fun _ => rc_intB) (ds := [_]) (ja_cons (je_cmp op_ne (fun q => rv_neC) (je_ix ix_str (fun q => rv_ixSN (i := s.1 - 1) ?h7 ?h8 ?h9) (je_var c 0) (je_op op_sub (fun _ => rv_sub) (je_var c 3) (je_int))) (je_ix ix_str (fun q => rv_ixSN (i := s.2.1 - 1) ?h10 ?h11 ?h12) (je_var c 1) (je_op op_sub (fun _ => rv_sub) (je_var c 4) (je_int)))) (ja_nil)))) (je_ix (o_ixL c) (fun q => rv_ixLR (i := s.2.1) ?h15 ?h16) (je_ix (o_ixL c) (fun q => rv_ixLR (i := s.1) ?h13 ?h14) (je_var c 2) (je_var c 3)) (je_var c 4))))))) <|
    jss_one (js_if (jt_val (je_var c 6))
    (jss_cons (js_append c 5 (je_if' (jt_cmp op_eq (fun q => rv_eqC) (je_ix ix_str (fun q => rv_ixSN (i := s.1 - 1) ?h17 ?h18 ?h19) (je_var c 0) (je_op op_sub (fun _ => rv_sub) (je_var c 3) (je_int))) (je_ix ix_str (fun q => rv_ixSN (i := s.2.1 - 1) ?h20 ?h21 ?h22) (je_var c 1) (je_op op_sub (fun _ => rv_sub) (je_var c 4) (je_int)))) (je_gstr c T.s_KEEP) (je_gstr c T.s_TURN)) (hz := (fun q => ?h23))) <|
    jss_cons (js_par_dd c 3 4 (je_op op_sub (fun _ => rv_sub) (je_var c 3) (je_int)) (je_op op_sub (fun _ => rv_sub) (je_var c 4) (je_int)) (fun env h => by unfold swappedStores Env.blockKind Env.kindOf; rw [h]; rfl)) <|
    jss_nil (fun q => ?h24))
    (jss_one (js_if (JW.jt (jw_and (jt_cmp op_gt (fun q => rv_gt) (je_var c 3) (je_int)) (jw_and1 (jt_cmp op_eq (fun q => rv_eqI) (je_op op_add (fun _ => rv_add) (je_ix (o_ixL c) (fun q => rv_ixLR (i := s.2.1) ?h27 ?h28) (je_ix (o_ixL c) (fun q => rv_ixLR (i := s.1 - 1) ?h25 ?h26) (je_var c 2) (je_op op_sub (fun _ => rv_sub) (je_var c 3) (je_int))) (je_var c 4)) (je_int)) (je_ix (o_ixL c) (fun q => rv_ixLR (i := s.2.1) ?h31 ?h32) (je_ix (o_ixL c) (fun q => rv_ixLR (i := s.1) ?h29 ?h30) (je_var c 2) (je_var c 3)) (je_var c 4))))))
    (jss_cons (js_append c 5 (je_gstr c T.s_OUT) (hz := (fun q => ?h33))) <|
    jss_cons (js_asg c 3 (je_op op_sub (fun _ => rv_sub) (je_var c 3) (je_int))) <|
    jss_nil (fun q => ?h34))
    (jss_cons (js_append c 5 (je_gstr c T.s_PUT) (hz := (fun q => ?h35))) <|
    jss_cons (js_asg c 4 (je_op op_sub (fun _ => rv_sub) (je_var c 4) (je_int))) <|
    jss_nil (fun q => ?h36))))))
    (fun s q gq hb => ?h38)) <|
    js_freeze 5 rfl <| jss_one (js_ret (je_var c 5) (fun q => ?h39))⟩
  case h1 => -- length
    first | exact ha.line | exact hb.line | exact hr.line
  case h2 => -- length
    first | exact ha.line | exact hb.line | exact hr.line
  case h3 => -- is at - 1
    first | rfl | omega | (simp only [decide_eq_true_eq, Bool.and_eq_true, Bool.or_eq_true] at q; omega)
  case h4 => -- below, board[at - 1]
    first | omega | (simp only [decide_eq_true_eq, Bool.and_eq_true, Bool.or_eq_true] at q; omega)
  case h5 => -- is to - 1
    first | rfl | omega | (simp only [decide_eq_true_eq, Bool.and_eq_true, Bool.or_eq_true] at q; omega)
  case h6 => -- below, board[at - 1][to - 1]
    first | omega | (simp only [decide_eq_true_eq, Bool.and_eq_true, Bool.or_eq_true] at q; omega)
  case h7 => -- length
    first | exact ha.line | exact hb.line | exact hr.line
  case h8 => -- is at - 1
    first | rfl | omega | (simp only [decide_eq_true_eq, Bool.and_eq_true, Bool.or_eq_true] at q; omega)
  case h9 => -- below, one[at - 1]
    first | omega | (simp only [decide_eq_true_eq, Bool.and_eq_true, Bool.or_eq_true] at q; omega)
  case h10 => -- length
    first | exact ha.line | exact hb.line | exact hr.line
  case h11 => -- is to - 1
    first | rfl | omega | (simp only [decide_eq_true_eq, Bool.and_eq_true, Bool.or_eq_true] at q; omega)
  case h12 => -- below, other[to - 1]
    first | omega | (simp only [decide_eq_true_eq, Bool.and_eq_true, Bool.or_eq_true] at q; omega)
  case h13 => -- is at
    first | rfl | omega | (simp only [decide_eq_true_eq, Bool.and_eq_true, Bool.or_eq_true] at q; omega)
  case h14 => -- below, board[at]
    first | omega | (simp only [decide_eq_true_eq, Bool.and_eq_true, Bool.or_eq_true] at q; omega)
  case h15 => -- is to
    first | rfl | omega | (simp only [decide_eq_true_eq, Bool.and_eq_true, Bool.or_eq_true] at q; omega)
  case h16 => -- below, board[at][to]
    first | omega | (simp only [decide_eq_true_eq, Bool.and_eq_true, Bool.or_eq_true] at q; omega)
  case h17 => -- length
    first | exact ha.line | exact hb.line | exact hr.line
  case h18 => -- is at - 1
    first | rfl | omega | (simp only [decide_eq_true_eq, Bool.and_eq_true, Bool.or_eq_true] at q; omega)
  case h19 => -- below, one[at - 1]
    first | omega | (simp only [decide_eq_true_eq, Bool.and_eq_true, Bool.or_eq_true] at q; omega)
  case h20 => -- length
    first | exact ha.line | exact hb.line | exact hr.line
  case h21 => -- is to - 1
    first | rfl | omega | (simp only [decide_eq_true_eq, Bool.and_eq_true, Bool.or_eq_true] at q; omega)
  case h22 => -- below, other[to - 1]
    first | omega | (simp only [decide_eq_true_eq, Bool.and_eq_true, Bool.or_eq_true] at q; omega)
  case h23 => -- size
    rw [List.length_map, sizeLine_eq]; have := ha.1; have := hb.1; have := q.1.1.2; omega
  case h24 => -- turn
    exact ⟨rfl, turn_diag q.1.1.2 q.2⟩
  case h25 => -- is at - 1
    first | rfl | omega | (simp only [decide_eq_true_eq, Bool.and_eq_true, Bool.or_eq_true] at q; omega)
  case h26 => -- below, board[at - 1]
    first | omega | (simp only [decide_eq_true_eq, Bool.and_eq_true, Bool.or_eq_true] at q; omega)
  case h27 => -- is to
    first | rfl | omega | (simp only [decide_eq_true_eq, Bool.and_eq_true, Bool.or_eq_true] at q; omega)
  case h28 => -- below, board[at - 1][to]
    first | omega | (simp only [decide_eq_true_eq, Bool.and_eq_true, Bool.or_eq_true] at q; omega)
  case h29 => -- is at
    first | rfl | omega | (simp only [decide_eq_true_eq, Bool.and_eq_true, Bool.or_eq_true] at q; omega)
  case h30 => -- below, board[at]
    first | omega | (simp only [decide_eq_true_eq, Bool.and_eq_true, Bool.or_eq_true] at q; omega)
  case h31 => -- is to
    first | rfl | omega | (simp only [decide_eq_true_eq, Bool.and_eq_true, Bool.or_eq_true] at q; omega)
  case h32 => -- below, board[at][to]
    first | omega | (simp only [decide_eq_true_eq, Bool.and_eq_true, Bool.or_eq_true] at q; omega)
  case h33 => -- size
    rw [List.length_map, sizeLine_eq]; have := ha.1; have := hb.1; have := q.1.1.1.2; omega
  case h34 => -- turn
    exact ⟨rfl, turn_out q.1.1.1.2 q.1.2 q.2⟩
  case h35 => -- size
    rw [List.length_map, sizeLine_eq]; have := ha.1; have := hb.1; have := q.1.1.1.2; omega
  case h36 => -- turn
    exact ⟨rfl, turn_put q.1.1.1.2 q.1.1.2 q.1.2 q.2⟩
  case h37 => -- start
    exact ⟨rfl, Nat.le_refl _, Nat.le_refl _, by rw [List.nil_append], Nat.le_refl _⟩
  case h38 => -- end
    exact ⟨turn_end gq hb, rfl⟩
  case h39 => -- return found
    first | exact ⟨rfl, rfl⟩
/-! ### check_board -/
theorem sc_check_board : FnScope ["one", "other"] ["one", "other"] (defScope scheckUboard) := ⟨rfl, rfl, rfl, by decide +kernel, rfl, by decide +kernel, by decide +kernel⟩
abbrev R_check_board : Says := fun π as d π' => ∃ a b, Row a ∧ Row b ∧ a.length ≤ 60 ∧ b.length ≤ 60 ∧ as = [.d (st a), .d (st b)] ∧ d = .none ∧ π' = π
theorem D_check_board {G : Glb} (T : Fx G) (A : As G) : Df G 3 "check_board" ["one", "other"] R_check_board := by
  refine mkDf A.a_check_board sc_check_board (fun π as d π' h => by obtain ⟨a, b, ha, hb, h1, h2, rfl, rfl, rfl⟩ := h; rfl) (fun _ _ _ _ _ _ us hl => match us, hl with | [_, _], _ => rfl) fun X c π as d π' h => ?_
  obtain ⟨a, b, ha, hb, h1, h2, rfl, rfl, rfl⟩ := h
  refine' ⟨_, jss_cons (js_drop (je_call c ((D_check_row T A).mono (by decide)) (ja_cons (je_var c 0) (ja_nil)) (fun q => ⟨a, ha, rfl, rfl, rfl⟩)) (fun _ => ⟨rfl, rfl⟩)) <|
    jss_cons (js_drop (je_call c ((D_check_row T A).mono (by decide)) (ja_cons (je_var c 1) (ja_nil)) (fun q => ⟨b, hb, rfl, rfl, rfl⟩)) (fun _ => ⟨rfl, rfl⟩)) <|
    jss_if (jt_cmp op_gt (fun q => rv_gt) (je_callB c (call_max2 c.calm) T.f_max (fun _ => rc_max2) (ds := [_, _]) (ja_cons (je_callB c call_len_str T.f_len (fun q => rc_lenS ?h1) (ds := [_]) (ja_cons (je_var c 0) (ja_nil))) (ja_cons (je_callB c call_len_str T.f_len (fun q => rc_lenS ?h2) (ds := [_]) (ja_cons (je_var c 1) (ja_nil))) (ja_nil)))) (je_gint c T.i_MOST_BOARD))
    (jss_never (fun q => ?h3))
    (jss_nil (fun q => ⟨rfl, rfl⟩))⟩
  case h1 => -- length
    first | exact ha.line | exact hb.line | exact hr.line
  case h2 => -- length
    first | exact ha.line | exact hb.line | exact hr.line
  case h3 => -- never
    exact absurd q.2 (by rw [decide_eq_false (by split <;> omega)]; decide)
/-! ### changes_told -/
theorem sc_changes_told : FnScope ["one", "other", "board", "steps", "line"] ["one", "other"] (defScope schangesUtold) := ⟨rfl, rfl, rfl, by decide +kernel, rfl, by decide +kernel, by decide +kernel⟩
abbrev R_changes_told : Says := fun π as d π' => ∃ a b, Row a ∧ Row b ∧ a.length ≤ 60 ∧ b.length ≤ 60 ∧ as = [.d (st a), .d (st b)] ∧ d = told a b ∧ π' = π
theorem D_changes_told {G : Glb} (T : Fx G) (A : As G) : Df G 4 "changes_told" ["one", "other"] R_changes_told := by
  refine mkDf A.a_changes_told sc_changes_told (fun π as d π' h => by obtain ⟨a, b, ha, hb, h1, h2, rfl, rfl, rfl⟩ := h; rfl) (fun _ _ _ _ _ _ us hl => match us, hl with | [_, _], _ => rfl) fun X c π as d π' h => ?_
  obtain ⟨a, b, ha, hb, h1, h2, rfl, rfl, rfl⟩ := h
  refine' ⟨_, jss_cons (js_drop (je_call c ((D_check_board T A).mono (by decide)) (ja_cons (je_var c 0) (ja_cons (je_var c 1) (ja_nil))) (fun q => ⟨a, b, ha, hb, h1, h2, rfl, rfl, rfl⟩)) (fun _ => ⟨rfl, rfl⟩)) <|
    jss_cons (js_asg c 2 (je_call c ((D_board_of T A).mono (by decide)) (ja_cons (je_var c 0) (ja_cons (je_var c 1) (ja_nil))) (fun q => ⟨a, b, ha, hb, rfl, rfl, rfl⟩))) <|
    jss_cons (js_asg c 3 (je_callTy c (o_tupOf c) T.f_tuple (fun _ => rc_tupL) (ds := [_]) (ja_cons (JL.je (jl_revL c (je_call c ((D_steps_back T A).mono (by decide)) (ja_cons (je_var c 0) (ja_cons (je_var c 1) (ja_cons (je_var c 2) (ja_nil)))) (fun q => ⟨a, b, ha, hb, rfl, rfl, rfl⟩)))) (ja_nil)))) <|
    jss_one (js_ret (je_tup (ds := [_, _, _]) (ja_cons (je_ix (o_ixL c) (fun q => rv_ixLE) (je_ix (o_ixL c) (fun q => rv_ixLE) (je_var c 2) (je_un un_neg (fun _ => ru_neg) (je_int))) (je_un un_neg (fun _ => ru_neg) (je_int))) (ja_cons (je_var c 3) (ja_cons (je_callTy c (o_tupOf c) T.f_tuple (fun _ => rc_tupL) (ds := [_]) (ja_cons (JLc.je c (jlc_map (j := 4) c (ji_listR (je_var c 2) c) (fun q => ?h1) (fun Y cY i => je_callTy cY (o_tupOf cY) T.f_tuple (fun _ => rc_tupL) (ds := [_]) (ja_cons (je_var cY 4) (ja_nil))))) (ja_nil))) (ja_nil)))) (by show 3 ≤ sizeLine; decide)) (fun q => ?h2))⟩
  case h1 => -- few items
    have := ha.1; omega
  case h2 => -- return (board[-1][-1], steps, tuple([tuple(line) for line in board]))
    exact ⟨by show PyData.tuple [_, _, _] = PyData.tuple [_, .tuple ((SB a b a.length b.length).reverse.map Step.d), _]; rw [List.map_reverse], rfl⟩
/-! ### least_changes -/
theorem sc_least_changes : FnScope ["one", "other"] ["one", "other"] (defScope sleastUchanges) := ⟨rfl, rfl, rfl, by decide +kernel, rfl, by decide +kernel, by decide +kernel⟩
abbrev R_least_changes : Says := fun π as d π' => ∃ a b, Row a ∧ Row b ∧ a.length ≤ 60 ∧ b.length ≤ 60 ∧ as = [.d (st a), .d (st b)] ∧ d = .int (D a b a.length b.length : Nat) ∧ π' = π
theorem D_least_changes {G : Glb} (T : Fx G) (A : As G) : Df G 4 "least_changes" ["one", "other"] R_least_changes := by
  refine mkDf A.a_least_changes sc_least_changes (fun π as d π' h => by obtain ⟨a, b, ha, hb, h1, h2, rfl, rfl, rfl⟩ := h; rfl) (fun _ _ _ _ _ _ us hl => match us, hl with | [_, _], _ => rfl) fun X c π as d π' h => ?_
  obtain ⟨a, b, ha, hb, h1, h2, rfl, rfl, rfl⟩ := h
  refine' ⟨_, jss_cons (js_drop (je_call c ((D_check_board T A).mono (by decide)) (ja_cons (je_var c 0) (ja_cons (je_var c 1) (ja_nil))) (fun q => ⟨a, b, ha, hb, h1, h2, rfl, rfl, rfl⟩)) (fun _ => ⟨rfl, rfl⟩)) <|
    jss_one (js_ret (je_ix (o_ixL c) (fun q => rv_ixLE) (je_ix (o_ixL c) (fun q => rv_ixLE) (je_call c ((D_board_of T A).mono (by decide)) (ja_cons (je_var c 0) (ja_cons (je_var c 1) (ja_nil))) (fun q => ⟨a, b, ha, hb, rfl, rfl, rfl⟩)) (je_un un_neg (fun _ => ru_neg) (je_int))) (je_un un_neg (fun _ => ru_neg) (je_int))) (fun q => ?h1))⟩
  case h1 => -- return board_of(one, other)[-1][-1]
    first | exact ⟨rfl, rfl⟩
/-! ### ways_at -/
theorem sc_ways_at : FnScope ["one", "other", "board", "ways", "at", "to", "found", "here"] ["one", "other", "board", "ways", "at", "to"] (defScope swaysUat) := ⟨rfl, rfl, rfl, by decide +kernel, rfl, by decide +kernel, by decide +kernel⟩
abbrev R_ways_at : Says := fun π as d π' => ∃ (a b : List Nat) (V : Nat → Nat → Int) (p : Nat × Nat), Row a ∧ Row b ∧ p.1 ≤ a.length ∧ p.2 ≤ b.length ∧ as = [.d (st a), .d (st b), .d (brd a b), .d (bdL (a.length + 1) (b.length + 1) V), .d (.int (p.1 : Nat)), .d (.int (p.2 : Nat))] ∧ d = .int (wayAt a b V p.1 p.2) ∧ π' = π
theorem D_ways_at {G : Glb} (T : Fx G) (A : As G) : Df G 1 "ways_at" ["one", "other", "board", "ways", "at", "to"] R_ways_at := by
  refine mkDf A.a_ways_at sc_ways_at (fun π as d π' h => by obtain ⟨a, b, V, p, ha, hb, hi, hj, rfl, rfl, rfl⟩ := h; rfl) (fun _ _ _ _ _ _ us hl => match us, hl with | [_, _, _, _, _, _], _ => rfl) fun X c π as d π' h => ?_
  obtain ⟨a, b, V, p, ha, hb, hi, hj, rfl, rfl, rfl⟩ := h
  refine' ⟨_, jss_if (JW.jt (jw_and (jt_cmp op_eq (fun q => rv_eqI) (je_var c 4) (je_int)) (jw_and1 (jt_cmp op_eq (fun q => rv_eqI) (je_var c 5) (je_int)))))
    (jss_one (js_ret (je_int) (fun q => ?h1)))
    (jss_cons (js_par_dd c 6 7 (je_int) (je_ix (o_ixL c) (fun q => rv_ixLR (i := p.2) (f := (fun j => .int (D a b p.1 j : Nat))) ?h4 ?h5) (je_ix (o_ixL c) (fun q => rv_ixLR (i := p.1) (f := (fun i => lnL (b.length + 1) fun j => (D a b i j : Nat))) ?h2 ?h3) (je_var c 2) (je_var c 4)) (je_var c 5)) (fun env h => by unfold swappedStores Env.blockKind Env.kindOf; rw [h]; rfl)) <|
    jss_cons (js_ifAsgI c 6 (JW.jt (jw_and (jt_cmp op_gt (fun q => rv_gt) (je_var c 4) (je_int)) (jw_and (jt_cmp op_gt (fun q => rv_gt) (je_var c 5) (je_int)) (jw_and1 (jt_cmp op_eq (fun q => rv_eqI) (je_op op_add (fun _ => rv_add) (je_ix (o_ixL c) (fun q => rv_ixLR (i := p.2 - 1) ?h8 ?h9) (je_ix (o_ixL c) (fun q => rv_ixLR (i := p.1 - 1) ?h6 ?h7) (je_var c 2) (je_op op_sub (fun _ => rv_sub) (je_var c 4) (je_int))) (je_op op_sub (fun _ => rv_sub) (je_var c 5) (je_int))) (je_callTy c call_int1 T.f_int (fun _ => rc_intB) (ds := [_]) (ja_cons (je_cmp op_ne (fun q => rv_neC) (je_ix ix_str (fun q => rv_ixSN (i := p.1 - 1) ?h10 ?h11 ?h12) (je_var c 0) (je_op op_sub (fun _ => rv_sub) (je_var c 4) (je_int))) (je_ix ix_str (fun q => rv_ixSN (i := p.2 - 1) ?h13 ?h14 ?h15) (je_var c 1) (je_op op_sub (fun _ => rv_sub) (je_var c 5) (je_int)))) (ja_nil)))) (je_var c 7)))))) (je_op op_add (fun _ => rv_add) (je_var c 6) (je_ix (o_ixL c) (fun q => rv_ixLR (i := p.2 - 1) ?h18 ?h19) (je_ix (o_ixL c) (fun q => rv_ixLR (i := p.1 - 1) ?h16 ?h17) (je_var c 3) (je_op op_sub (fun _ => rv_sub) (je_var c 4) (je_int))) (je_op op_sub (fun _ => rv_sub) (je_var c 5) (je_int))))) <|
    jss_cons (js_ifAsgI c 6 (JW.jt (jw_and (jt_cmp op_gt (fun q => rv_gt) (je_var c 4) (je_int)) (jw_and1 (jt_cmp op_eq (fun q => rv_eqI) (je_op op_add (fun _ => rv_add) (je_ix (o_ixL c) (fun q => rv_ixLR (i := p.2) ?h22 ?h23) (je_ix (o_ixL c) (fun q => rv_ixLR (i := p.1 - 1) ?h20 ?h21) (je_var c 2) (je_op op_sub (fun _ => rv_sub) (je_var c 4) (je_int))) (je_var c 5)) (je_int)) (je_var c 7))))) (je_op op_add (fun _ => rv_add) (je_var c 6) (je_ix (o_ixL c) (fun q => rv_ixLR (i := p.2) ?h26 ?h27) (je_ix (o_ixL c) (fun q => rv_ixLR (i := p.1 - 1) ?h24 ?h25) (je_var c 3) (je_op op_sub (fun _ => rv_sub) (je_var c 4) (je_int))) (je_var c 5)))) <|
    jss_one (js_ret (je_op op_add (fun _ => rv_add) (je_var c 6) (je_ifI (JW.jt (jw_and (jt_cmp op_gt (fun q => rv_gt) (je_var c 5) (je_int)) (jw_and1 (jt_cmp op_eq (fun q => rv_eqI) (je_op op_add (fun _ => rv_add) (je_ix (o_ixL c) (fun q => rv_ixLR (i := p.2 - 1) ?h30 ?h31) (je_ix (o_ixL c) (fun q => rv_ixLR (i := p.1) ?h28 ?h29) (je_var c 2) (je_var c 4)) (je_op op_sub (fun _ => rv_sub) (je_var c 5) (je_int))) (je_int)) (je_var c 7))))) (je_ix (o_ixL c) (fun q => rv_ixLR (i := p.2 - 1) ?h34 ?h35) (je_ix (o_ixL c) (fun q => rv_ixLR (i := p.1) ?h32 ?h33) (je_var c 3) (je_var c 4)) (je_op op_sub (fun _ => rv_sub) (je_var c 5) (je_int))) (je_int))) (fun q => ?h36)))⟩
  case h1 => -- return 1
    refine ⟨?_, rfl⟩
    have e := q.2
    simp only [Bool.and_eq_true, decide_eq_true_eq] at e
    unfold wayAt
    rw [if_pos ⟨by omega, by omega⟩]
  case h2 => -- is at
    first | rfl | omega | (simp only [decide_eq_true_eq, Bool.and_eq_true, Bool.or_eq_true] at q; omega)
  case h3 => -- below, board[at]
    first | omega | (simp only [decide_eq_true_eq, Bool.and_eq_true, Bool.or_eq_true] at q; omega)
  case h4 => -- is to
    first | rfl | omega | (simp only [decide_eq_true_eq, Bool.and_eq_true, Bool.or_eq_true] at q; omega)
  case h5 => -- below, board[at][to]
    first | omega | (simp only [decide_eq_true_eq, Bool.and_eq_true, Bool.or_eq_true] at q; omega)
  case h6 => -- is at - 1
    first | rfl | omega | (simp only [decide_eq_true_eq, Bool.and_eq_true, Bool.or_eq_true] at q; omega)
  case h7 => -- below, board[at - 1]
    first | omega | (simp only [decide_eq_true_eq, Bool.and_eq_true, Bool.or_eq_true] at q; omega)
  case h8 => -- is to - 1
    first | rfl | omega | (simp only [decide_eq_true_eq, Bool.and_eq_true, Bool.or_eq_true] at q; omega)
  case h9 => -- below, board[at - 1][to - 1]
    first | omega | (simp only [decide_eq_true_eq, Bool.and_eq_true, Bool.or_eq_true] at q; omega)
  case h10 => -- length
    first | exact ha.line | exact hb.line | exact hr.line
  case h11 => -- is at - 1
    first | rfl | omega | (simp only [decide_eq_true_eq, Bool.and_eq_true, Bool.or_eq_true] at q; omega)
  case h12 => -- below, one[at - 1]
    first | omega | (simp only [decide_eq_true_eq, Bool.and_eq_true, Bool.or_eq_true] at q; omega)
  case h13 => -- length
    first | exact ha.line | exact hb.line | exact hr.line
  case h14 => -- is to - 1
    first | rfl | omega | (simp only [decide_eq_true_eq, Bool.and_eq_true, Bool.or_eq_true] at q; omega)
  case h15 => -- below, other[to - 1]
    first | omega | (simp only [decide_eq_true_eq, Bool.and_eq_true, Bool.or_eq_true] at q; omega)
  case h16 => -- is at - 1
    first | rfl | omega | (simp only [decide_eq_true_eq, Bool.and_eq_true, Bool.or_eq_true] at q; omega)
  case h17 => -- below, ways[at - 1]
    first | omega | (simp only [decide_eq_true_eq, Bool.and_eq_true, Bool.or_eq_true] at q; omega)
  case h18 => -- is to - 1
    first | rfl | omega | (simp only [decide_eq_true_eq, Bool.and_eq_true, Bool.or_eq_true] at q; omega)
  case h19 => -- below, ways[at - 1][to - 1]
    first | omega | (simp only [decide_eq_true_eq, Bool.and_eq_true, Bool.or_eq_true] at q; omega)
  case h20 => -- is at - 1
    first | rfl | omega | (simp only [decide_eq_true_eq, Bool.and_eq_true, Bool.or_eq_true] at q; omega)
  case h21 => -- below, board[at - 1]
    first | omega | (simp only [decide_eq_true_eq, Bool.and_eq_true, Bool.or_eq_true] at q; omega)
  case h22 => -- is to
    first | rfl | omega | (simp only [decide_eq_true_eq, Bool.and_eq_true, Bool.or_eq_true] at q; omega)
  case h23 => -- below, board[at - 1][to]
    first | omega | (simp only [decide_eq_true_eq, Bool.and_eq_true, Bool.or_eq_true] at q; omega)
  case h24 => -- is at - 1
    first | rfl | omega | (simp only [decide_eq_true_eq, Bool.and_eq_true, Bool.or_eq_true] at q; omega)
  case h25 => -- below, ways[at - 1]
    first | omega | (simp only [decide_eq_true_eq, Bool.and_eq_true, Bool.or_eq_true] at q; omega)
  case h26 => -- is to
    first | rfl | omega | (simp only [decide_eq_true_eq, Bool.and_eq_true, Bool.or_eq_true] at q; omega)
  case h27 => -- below, ways[at - 1][to]
    first | omega | (simp only [decide_eq_true_eq, Bool.and_eq_true, Bool.or_eq_true] at q; omega)
  case h28 => -- is at
    first | rfl | omega | (simp only [decide_eq_true_eq, Bool.and_eq_true, Bool.or_eq_true] at q; omega)
  case h29 => -- below, board[at]
    first | omega | (simp only [decide_eq_true_eq, Bool.and_eq_true, Bool.or_eq_true] at q; omega)
  case h30 => -- is to - 1
    first | rfl | omega | (simp only [decide_eq_true_eq, Bool.and_eq_true, Bool.or_eq_true] at q; omega)
  case h31 => -- below, board[at][to - 1]
    first | omega | (simp only [decide_eq_true_eq, Bool.and_eq_true, Bool.or_eq_true] at q; omega)
  case h32 => -- is at
    first | rfl | omega | (simp only [decide_eq_true_eq, Bool.and_eq_true, Bool.or_eq_true] at q; omega)
  case h33 => -- below, ways[at]
    first | omega | (simp only [decide_eq_true_eq, Bool.and_eq_true, Bool.or_eq_true] at q; omega)
  case h34 => -- is to - 1
    first | rfl | omega | (simp only [decide_eq_true_eq, Bool.and_eq_true, Bool.or_eq_true] at q; omega)
  case h35 => -- below, ways[at][to - 1]
    first | omega | (simp only [decide_eq_true_eq, Bool.and_eq_true, Bool.or_eq_true] at q; omega)
  case h36 => -- return found + (ways[at][to - 1] if to > 0 and board[at][to - 1] + 1 == here else 0)
    exact ⟨congrArg PyData.int (way_eq (V := V) q.2), rfl⟩
end K12

/-! ## K12W3 -/
set_option Elab.async false
set_option linter.all false
set_option maxRecDepth 100000
set_option maxHeartbeats 4000000
namespace K12
open PySem PySem.Spec PyProof.Rows L2 JD

/-! ### led_by -/
theorem sc_led_by : FnScope ["one", "other", "steps", "at", "to", "many", "step", "is_there"] ["one", "other", "steps"] (defScope sledUby) := ⟨rfl, rfl, rfl, by decide +kernel, rfl, by decide +kernel, by decide +kernel⟩
abbrev R_led_by : Says := fun π as d π' => ∃ (a b : List Nat) (ss : List Step), Row a ∧ Row b ∧ ss.length ≤ 1000 ∧ as = [.d (st a), .d (st b), .d (.tuple (ss.map Step.d))] ∧ d = .tuple [.bool (led a b ss (0, 0, 0)).1, .int ((led a b ss (0, 0, 0)).2 : Nat)] ∧ π' = π
theorem D_led_by {G : Glb} (T : Fx G) (A : As G) : Df G 1 "led_by" ["one", "other", "steps"] R_led_by := by
  refine mkDf A.a_led_by sc_led_by (fun π as d π' h => by obtain ⟨a, b, ss, ha, hb, hs, rfl, rfl, rfl⟩ := h; rfl) (fun _ _ _ _ _ _ us hl => match us, hl with | [_, _, _], _ => rfl) fun X c π as d π' h => ?_
  obtain ⟨a, b, ss, ha, hb, hs, rfl, rfl, rfl⟩ := h
  refine' ⟨_, jss_cons (js_unpack3 c 3 4 5 (je_tup (ds := [_, _, _]) (ja_cons (je_int) (ja_cons (je_int) (ja_cons (je_int) (ja_nil)))) (by show 3 ≤ sizeLine; decide)) (hw := by unfold swappedStores Env.blockKind Env.kindOf; rw [c.sc]; rfl)) <|
    jss_consP (led a b (ss.drop ss.length) (posn ss ss.length) = led a b ss (0, 0, 0)) (js_for c [6, 7] (fun i => [.val (st a), .val (st b), .val (.tuple (ss.map Step.d)), .val (.int ((posn ss i).1 : Nat)), .val (.int ((posn ss i).2.1 : Nat)), .val (.int ((posn ss i).2.2 : Nat)), .un, .un]) (fun i => [.val (st a), .val (st b), .val (.tuple (ss.map Step.d)), .val (.int ((posn ss i).1 : Nat)), .val (.int ((posn ss i).2.1 : Nat)), .val (.int ((posn ss i).2.2 : Nat)), .val (ss.getD i .keep).d, .un]) (fun _ => π') (fun i => led a b (ss.drop i) (posn ss i) = led a b ss (0, 0, 0) ∧ i ≤ ss.length) (ji_tupF Step.keep (je_var c 2) c) (pg_nameG c 6) (fun q => ?h18) (fun _ => eg_name)
    (fun i => jss_consP (ledbad a b (posn ss i) (ss.getD i .keep) = false) (js_if (jt_cmp (o_in c) (fun q => rv_inT ?h1 ?h2) (je_var c 6) (je_tup (ds := [_, _]) (ja_cons (je_gstr c T.s_KEEP) (ja_cons (je_gstr c T.s_TURN) (ja_nil))) (by show 2 ≤ sizeLine; decide)))
    (jss_cons (js_asg c 7 (je_and (je_cmp op_lt (fun q => rv_lt) (je_var c 3) (je_callB c call_len_str T.f_len (fun q => rc_lenS ?h3) (ds := [_]) (ja_cons (je_var c 0) (ja_nil)))) (je_one (je_cmp op_lt (fun q => rv_lt) (je_var c 4) (je_callB c call_len_str T.f_len (fun q => rc_lenS ?h4) (ds := [_]) (ja_cons (je_var c 1) (ja_nil))))))) <|
    jss_if (JW.jt (jw_or (jt_not (jt_val (je_var c 7))) (jw_or1 (jt_cmp op_ne (fun q => rv_neB) (je_cmp op_eq (fun q => rv_eqC) (je_ix ix_str (fun q => rv_ixSN (i := (posn ss i).1) ?h5 ?h6 ?h7) (je_var c 0) (je_var c 3)) (je_ix ix_str (fun q => rv_ixSN (i := (posn ss i).2.1) ?h8 ?h9 ?h10) (je_var c 1) (je_var c 4))) (je_cmp op_eq (fun q => rv_eqS) (je_var c 6) (je_gstr c T.s_KEEP))))))
    (jss_one (js_ret (je_tup (ds := [_, _]) (ja_cons (je_bl) (ja_cons (je_var c 5) (ja_nil))) (by show 2 ≤ sizeLine; decide)) (fun q => ?h11)))
    (js_forget 7 <| jss_nil (fun q => ⟨rfl, rfl, ?h12⟩)))
    (jss_nil (fun q => ⟨rfl, rfl, ?h13⟩))) <|
    jss_if (JW.jt (jw_or (JW.jt (jw_and (jt_cmp op_eq (fun q => rv_eqS) (je_var c 6) (je_gstr c T.s_OUT)) (jw_and1 (jt_cmp op_ge (fun q => rv_ge) (je_var c 3) (je_callB c call_len_str T.f_len (fun q => rc_lenS ?h14) (ds := [_]) (ja_cons (je_var c 0) (ja_nil))))))) (jw_or1 (JW.jt (jw_and (jt_cmp op_eq (fun q => rv_eqS) (je_var c 6) (je_gstr c T.s_PUT)) (jw_and1 (jt_cmp op_ge (fun q => rv_ge) (je_var c 4) (je_callB c call_len_str T.f_len (fun q => rc_lenS ?h15) (ds := [_]) (ja_cons (je_var c 1) (ja_nil))))))))))
    (jss_one (js_ret (je_tup (ds := [_, _]) (ja_cons (je_bl) (ja_cons (je_var c 5) (ja_nil))) (by show 2 ≤ sizeLine; decide)) (fun q => ?h16)))
    (jss_cons (js_par3_ddd c 3 4 5 (je_op op_add (fun _ => rv_add) (je_var c 3) (je_callTy c call_int1 T.f_int (fun _ => rc_intB) (ds := [_]) (ja_cons (je_cmp op_ne (fun q => rv_neS) (je_var c 6) (je_gstr c T.s_PUT)) (ja_nil)))) (je_op op_add (fun _ => rv_add) (je_var c 4) (je_callTy c call_int1 T.f_int (fun _ => rc_intB) (ds := [_]) (ja_cons (je_cmp op_ne (fun q => rv_neS) (je_var c 6) (je_gstr c T.s_OUT)) (ja_nil)))) (je_op op_add (fun _ => rv_add) (je_var c 5) (je_callTy c call_int1 T.f_int (fun _ => rc_intB) (ds := [_]) (ja_cons (je_cmp op_ne (fun q => rv_neS) (je_var c 6) (je_gstr c T.s_KEEP)) (ja_nil)))) (fun env h => by unfold swappedStores Env.blockKind Env.kindOf; rw [h]; rfl)) <|
    jss_nil (fun q => ?h17)))
    (fun q gq => ⟨rfl, rfl, gq.1⟩)) <|
    jss_one (js_ret (je_tup (ds := [_, _]) (ja_cons (je_and (je_cmp op_eq (fun q => rv_eqI) (je_var c 3) (je_callB c call_len_str T.f_len (fun q => rc_lenS ?h19) (ds := [_]) (ja_cons (je_var c 0) (ja_nil)))) (je_one (je_cmp op_eq (fun q => rv_eqI) (je_var c 4) (je_callB c call_len_str T.f_len (fun q => rc_lenS ?h20) (ds := [_]) (ja_cons (je_var c 1) (ja_nil)))))) (ja_cons (je_var c 5) (ja_nil))) (by show 2 ≤ sizeLine; decide)) (fun q => ?h21))⟩
  case h1 => -- scalar
    rfl
  case h2 => -- scalars
    rfl
  case h3 => -- length
    first | exact ha.line | exact hb.line | exact hr.line
  case h4 => -- length
    first | exact ha.line | exact hb.line | exact hr.line
  case h5 => -- length
    first | exact ha.line | exact hb.line | exact hr.line
  case h6 => -- is at
    first | rfl | omega | (simp only [decide_eq_true_eq, Bool.and_eq_true, Bool.or_eq_true, Bool.not_eq_false', Bool.not_eq_true', decide_eq_false_iff_not] at q; omega) | (fail)
  case h7 => -- below, one[at]
    first | omega | (simp only [decide_eq_true_eq, Bool.and_eq_true, Bool.or_eq_true, Bool.not_eq_false', Bool.not_eq_true', decide_eq_false_iff_not] at q; omega) | (fail)
  case h8 => -- length
    first | exact ha.line | exact hb.line | exact hr.line
  case h9 => -- is to
    first | rfl | omega | (simp only [decide_eq_true_eq, Bool.and_eq_true, Bool.or_eq_true, Bool.not_eq_false', Bool.not_eq_true', decide_eq_false_iff_not] at q; omega) | (fail)
  case h10 => -- below, other[to]
    first | omega | (simp only [decide_eq_true_eq, Bool.and_eq_true, Bool.or_eq_true, Bool.not_eq_false', Bool.not_eq_true', decide_eq_false_iff_not] at q; omega) | (fail)
  case h11 => -- return (False, many)
    have e := led_stop q.1.1.2.1 q.1.1.2.2.1 (.inl (by unfold ledbad; rw [q.1.2, q.2]; rfl))
    exact ⟨by rw [e], rfl⟩
  case h12 => -- passed
    unfold ledbad; rw [q.1.2, q.2]; rfl
  case h13 => -- passed by
    unfold ledbad; rw [q.2]; rfl
  case h14 => -- length
    first | exact ha.line | exact hb.line | exact hr.line
  case h15 => -- length
    first | exact ha.line | exact hb.line | exact hr.line
  case h16 => -- return (False, many)
    have e := led_stop q.1.1.2.1 q.1.1.2.2.1 (.inr q.2)
    exact ⟨by rw [e], rfl⟩
  case h17 => -- turn
    exact ⟨led_turn q.1.1.2.1, rfl, led_go q.1.1.2.1 q.1.1.2.2.1 q.1.2 q.2, q.1.1.2.1⟩
  case h18 => -- start
    exact ⟨rfl, rfl, rfl, Nat.zero_le _⟩
  case h19 => -- length
    first | exact ha.line | exact hb.line | exact hr.line
  case h20 => -- length
    first | exact ha.line | exact hb.line | exact hr.line
  case h21 => -- return (at == len(one) and to == len(other), many)
    have e := led_last q.2
    exact ⟨by rw [e.1, e.2], rfl⟩
/-! ### is_priced -/
theorem sc_is_priced : FnScope ["one", "other", "board", "at", "line", "to", "price"] ["one", "other", "board"] (defScope sisUpriced) := ⟨rfl, rfl, rfl, by decide +kernel, rfl, by decide +kernel, by decide +kernel⟩
abbrev R_is_priced : Says := fun π as d π' => ∃ (a b : List Nat) (M : Nat → Nat → Int), Row a ∧ Row b ∧ as = [.d (st a), .d (st b), .d (bdT (a.length + 1) (b.length + 1) M)] ∧ d = .bool (priced a b M) ∧ π' = π
theorem D_is_priced {G : Glb} (T : Fx G) (A : As G) : Df G 1 "is_priced" ["one", "other", "board"] R_is_priced := by
  refine mkDf A.a_is_priced sc_is_priced (fun π as d π' h => by obtain ⟨a, b, M, ha, hb, rfl, rfl, rfl⟩ := h; rfl) (fun _ _ _ _ _ _ us hl => match us, hl with | [_, _, _], _ => rfl) fun X c π as d π' h => ?_
  obtain ⟨a, b, M, ha, hb, rfl, rfl, rfl⟩ := h
  refine' ⟨_, jss_consP (∀ r, r < a.length + 1 → ∀ j, j < b.length + 1 → okAt a b M r j = true) (js_for c [3, 4, 5, 6] (fun i => [.val (st a), .val (st b), .val (bdT (a.length + 1) (b.length + 1) M), .un, .un, .un, .un]) (fun i => [.val (st a), .val (st b), .val (bdT (a.length + 1) (b.length + 1) M), .val (.int (i : Int)), .val (ln (b.length + 1) (M i)), .un, .un]) (fun _ => π') (fun i => ∀ r, r < i → ∀ j, j < b.length + 1 → okAt a b M r j = true) (ji_enumTR c (je_var c 2) T.f_enumerate) (pg2G c 3 4) (fun q => ?h22) (fun _ => eg_tup2)
    (fun i => jss_consP (∀ r, r < b.length + 1 → okAt a b M i r = true) (js_for c [5, 6] (fun j => [.val (st a), .val (st b), .val (bdT (a.length + 1) (b.length + 1) M), .val (.int (i : Int)), .val (ln (b.length + 1) (M i)), .un, .un]) (fun j => [.val (st a), .val (st b), .val (bdT (a.length + 1) (b.length + 1) M), .val (.int (i : Int)), .val (ln (b.length + 1) (M i)), .val (.int (j : Int)), .val (.int (M i j))]) (fun _ => π') (fun j => ∀ r, r < j → okAt a b M i r = true) (ji_enumTR c (je_var c 4) T.f_enumerate) (pg2G c 5 6) (fun q => ?h20) (fun _ => eg_tup2)
    (fun j => jss_if (JW.jt (jw_or (JW.jt (jw_and (jt_cmp op_gt (fun q => rv_gt) (je_var c 3) (je_int)) (jw_and1 (jt_cmp op_gt (fun q => rv_gt) (je_var c 6) (je_op op_add (fun _ => rv_add) (je_ix (o_ixT c) (fun q => rv_ixTR (i := j) ?h3 ?h4) (je_ix (o_ixT c) (fun q => rv_ixTR (i := i - 1) ?h1 ?h2) (je_var c 2) (je_op op_sub (fun _ => rv_sub) (je_var c 3) (je_int))) (je_var c 5)) (je_int)))))) (jw_or1 (JW.jt (jw_and (jt_cmp op_gt (fun q => rv_gt) (je_var c 5) (je_int)) (jw_and1 (jt_cmp op_gt (fun q => rv_gt) (je_var c 6) (je_op op_add (fun _ => rv_add) (je_ix (o_ixT c) (fun q => rv_ixTR (i := j - 1) ?h5 ?h6) (je_var c 4) (je_op op_sub (fun _ => rv_sub) (je_var c 5) (je_int))) (je_int)))))))))
    (jss_one (js_ret (je_bl) (fun q => ?h7)))
    (jss_if (JW.jt (jw_and (jt_cmp op_gt (fun q => rv_gt) (je_var c 3) (je_int)) (jw_and (jt_cmp op_gt (fun q => rv_gt) (je_var c 5) (je_int)) (jw_and1 (jt_cmp op_gt (fun q => rv_gt) (je_var c 6) (je_op op_add (fun _ => rv_add) (je_ix (o_ixT c) (fun q => rv_ixTR (i := j - 1) ?h10 ?h11) (je_ix (o_ixT c) (fun q => rv_ixTR (i := i - 1) ?h8 ?h9) (je_var c 2) (je_op op_sub (fun _ => rv_sub) (je_var c 3) (je_int))) (je_op op_sub (fun _ => rv_sub) (je_var c 5) (je_int))) (je_callTy c call_int1 T.f_int (fun _ => rc_intB) (ds := [_]) (ja_cons (je_cmp op_ne (fun q => rv_neC) (je_ix ix_str (fun q => rv_ixSN (i := i - 1) ?h12 ?h13 ?h14) (je_var c 0) (je_op op_sub (fun _ => rv_sub) (je_var c 3) (je_int))) (je_ix ix_str (fun q => rv_ixSN (i := j - 1) ?h15 ?h16 ?h17) (je_var c 1) (je_op op_sub (fun _ => rv_sub) (je_var c 5) (je_int)))) (ja_nil)))))))))
    (jss_one (js_ret (je_bl) (fun q => ?h18)))
    (jss_nil (fun q => ?h19))))
    (fun q gq => ⟨rfl, rfl, gq⟩)) <|
    jss_nil (fun q => ?h21))
    (fun q gq => ⟨rfl, rfl, gq⟩)) <|
    jss_one (js_ret (je_bl) (fun q => ?h23))⟩
  case h1 => -- is at - 1
    first | rfl | omega | (simp only [decide_eq_true_eq, Bool.and_eq_true, Bool.or_eq_true, Bool.not_eq_false', Bool.not_eq_true', decide_eq_false_iff_not] at q; omega) | (fail)
  case h2 => -- below, board[at - 1]
    first | omega | (simp only [decide_eq_true_eq, Bool.and_eq_true, Bool.or_eq_true, Bool.not_eq_false', Bool.not_eq_true', decide_eq_false_iff_not] at q; omega) | (fail)
  case h3 => -- is to
    first | rfl | omega | (simp only [decide_eq_true_eq, Bool.and_eq_true, Bool.or_eq_true, Bool.not_eq_false', Bool.not_eq_true', decide_eq_false_iff_not] at q; omega) | (fail)
  case h4 => -- below, board[at - 1][to]
    first | omega | (simp only [decide_eq_true_eq, Bool.and_eq_true, Bool.or_eq_true, Bool.not_eq_false', Bool.not_eq_true', decide_eq_false_iff_not] at q; omega) | (fail)
  case h5 => -- is to - 1
    first | rfl | omega | (simp only [decide_eq_true_eq, Bool.and_eq_true, Bool.or_eq_true, Bool.not_eq_false', Bool.not_eq_true', decide_eq_false_iff_not] at q; omega) | (fail)
  case h6 => -- below, line[to - 1]
    first | omega | (simp only [decide_eq_true_eq, Bool.and_eq_true, Bool.or_eq_true, Bool.not_eq_false', Bool.not_eq_true', decide_eq_false_iff_not] at q; omega) | (fail)
  case h7 => -- return False
    exact ⟨by rw [priced_no q.1.1.2.1 q.1.2.1 (.inl q.2)], rfl⟩
  case h8 => -- is at - 1
    first | rfl | omega | (simp only [decide_eq_true_eq, Bool.and_eq_true, Bool.or_eq_true, Bool.not_eq_false', Bool.not_eq_true', decide_eq_false_iff_not] at q; omega) | (fail)
  case h9 => -- below, board[at - 1]
    first | omega | (simp only [decide_eq_true_eq, Bool.and_eq_true, Bool.or_eq_true, Bool.not_eq_false', Bool.not_eq_true', decide_eq_false_iff_not] at q; omega) | (fail)
  case h10 => -- is to - 1
    first | rfl | omega | (simp only [decide_eq_true_eq, Bool.and_eq_true, Bool.or_eq_true, Bool.not_eq_false', Bool.not_eq_true', decide_eq_false_iff_not] at q; omega) | (fail)
  case h11 => -- below, board[at - 1][to - 1]
    first | omega | (simp only [decide_eq_true_eq, Bool.and_eq_true, Bool.or_eq_true, Bool.not_eq_false', Bool.not_eq_true', decide_eq_false_iff_not] at q; omega) | (fail)
  case h12 => -- length
    first | exact ha.line | exact hb.line | exact hr.line
  case h13 => -- is at - 1
    first | rfl | omega | (simp only [decide_eq_true_eq, Bool.and_eq_true, Bool.or_eq_true, Bool.not_eq_false', Bool.not_eq_true', decide_eq_false_iff_not] at q; omega) | (fail)
  case h14 => -- below, one[at - 1]
    first | omega | (simp only [decide_eq_true_eq, Bool.and_eq_true, Bool.or_eq_true, Bool.not_eq_false', Bool.not_eq_true', decide_eq_false_iff_not] at q; omega) | (fail)
  case h15 => -- length
    first | exact ha.line | exact hb.line | exact hr.line
  case h16 => -- is to - 1
    first | rfl | omega | (simp only [decide_eq_true_eq, Bool.and_eq_true, Bool.or_eq_true, Bool.not_eq_false', Bool.not_eq_true', decide_eq_false_iff_not] at q; omega) | (fail)
  case h17 => -- below, other[to - 1]
    first | omega | (simp only [decide_eq_true_eq, Bool.and_eq_true, Bool.or_eq_true, Bool.not_eq_false', Bool.not_eq_true', decide_eq_false_iff_not] at q; omega) | (fail)
  case h18 => -- return False
    exact ⟨by rw [priced_no q.1.1.1.2.1 q.1.1.2.1 (.inr q.2)], rfl⟩
  case h19 => -- turn
    exact ⟨rfl, rfl, below_succ q.1.1.2.2 (by unfold okAt; rw [show bad1 M i j = false from q.1.2, show bad2 a b M i j = false from q.2]; rfl)⟩
  case h20 => -- start
    exact ⟨rfl, rfl, fun r hr => absurd hr (Nat.not_lt_zero _)⟩
  case h21 => -- turn
    exact ⟨rfl, rfl, below_succ q.1.2.2 q.2⟩
  case h22 => -- start
    exact ⟨rfl, rfl, fun r hr => absurd hr (Nat.not_lt_zero _)⟩
  case h23 => -- return True
    exact ⟨by rw [priced_yes q.2], rfl⟩
/-! ### is_board -/
theorem sc_is_board : FnScope ["one", "other", "value", "line"] ["one", "other", "value"] (defScope sisUboard) := ⟨rfl, rfl, rfl, by decide +kernel, rfl, by decide +kernel, by decide +kernel⟩
abbrev R_is_board : Says := fun π as d π' => ∃ (a b : List Nat) (n m : Nat) (M : Nat → Nat → Int), Row a ∧ Row b ∧ n ≤ 400 ∧ m ≤ 400 ∧ (∀ i j, i ≤ n → j ≤ m → -120 ≤ M i j ∧ M i j ≤ 120) ∧ M 0 0 = 0 ∧ as = [.d (st a), .d (st b), .d (bdT (n + 1) (m + 1) M)] ∧ d = .bool (decide (n = a.length) && decide (m = b.length)) ∧ π' = π
theorem D_is_board {G : Glb} (T : Fx G) (A : As G) : Df G 4 "is_board" ["one", "other", "value"] R_is_board := by
  refine mkDf A.a_is_board sc_is_board (fun π as d π' h => by obtain ⟨a, b, n, m, M, ha, hb, hn, hm, hM, h0, rfl, rfl, rfl⟩ := h; rfl) (fun _ _ _ _ _ _ us hl => match us, hl with | [_, _, _], _ => rfl) fun X c π as d π' h => ?_
  obtain ⟨a, b, n, m, M, ha, hb, hn, hm, hM, h0, rfl, rfl, rfl⟩ := h
  refine' ⟨_, jss_if (JW.jt (jw_or (jt_not (jt_val (je_call c ((D_is_tuple_of T A).mono (by decide)) (ja_cons (je_var c 2) (ja_cons (je_op op_add (fun _ => rv_add) (je_callB c call_len_str T.f_len (fun q => rc_lenS ?h1) (ds := [_]) (ja_cons (je_var c 0) (ja_nil))) (je_int)) (ja_nil))) (fun q => ⟨_, (a.length : Int) + 1, rfl, rfl, rfl⟩)))) (jw_or1 (jt_not (jt_val (je_callB c (o_all c) T.f_all (fun _ => rc_allF) (ds := [_]) (ja_cons (JLc.je c (jlc_map (j := 3) c (ji_tupR (je_var c 2) c) (fun q => ?h3) (fun Y cY i => je_call cY ((D_is_tuple_of T A).mono (by decide)) (ja_cons (je_var cY 3) (ja_cons (je_op op_add (fun _ => rv_add) (je_callB cY call_len_str T.f_len (fun q => rc_lenS ?h2) (ds := [_]) (ja_cons (je_var cY 1) (ja_nil))) (je_int)) (ja_nil))) (fun q => ⟨_, (b.length : Int) + 1, rfl, rfl, rfl⟩)))) (ja_nil))))))))
    (jss_one (js_ret (je_bl) (fun q => ?h4)))
    (jss_if (jt_not (jt_val (je_callB c (o_all c) T.f_all (fun _ => rc_allF) (ds := [_]) (ja_cons (JLc.je c (jlc_map (j := 3) c (ji_tupR (je_var c 2) c) (fun q => ?h7) (fun Y cY i => je_call cY ((D_are_between T A).mono (by decide)) (ja_cons (je_var cY 3) (ja_cons (je_op op_sub (fun _ => rv_sub) (je_int) (je_op op_mul (fun q => rv_mul ?h5) (je_int) (je_gint cY T.i_MOST_BOARD))) (ja_cons (je_op op_mul (fun q => rv_mul ?h6) (je_int) (je_gint cY T.i_MOST_BOARD)) (ja_nil)))) (fun q => ⟨m + 1, M i, 0 - 2 * 60, 2 * 60, by omega, rfl, rfl, rfl⟩)))) (ja_nil)))))
    (jss_one (js_ret (je_bl) (fun q => ?h8)))
    (jss_one (js_ret (je_cmp op_eq (fun q => rv_eqI) (je_ix (o_ixT c) (fun q => rv_ixTR (i := 0) ?h11 ?h12) (je_ix (o_ixT c) (fun q => rv_ixTR (i := 0) ?h9 ?h10) (je_var c 2) (je_int)) (je_int)) (je_int)) (fun q => ?h13))))⟩
  case h1 => -- length
    first | exact ha.line | exact hb.line | exact hr.line
  case h2 => -- length
    first | exact ha.line | exact hb.line | exact hr.line
  case h3 => -- few items
    omega
  case h4 => -- return False
    simp only [len_is, all_const] at q
    refine ⟨congrArg PyData.bool ?_, rfl⟩
    have e := q.2
    revert e
    cases decide (n = a.length) <;> cases decide (m = b.length) <;> simp
  case h5 => -- 2 * MOST_BOARD
    exact .inl ⟨by decide, by decide⟩
  case h6 => -- 2 * MOST_BOARD
    exact .inl ⟨by decide, by decide⟩
  case h7 => -- few items
    omega
  case h8 => -- return False
    refine absurd q.2 ?_
    rw [List.all_eq_true.mpr fun i hi => List.all_eq_true.mpr fun j hj => by
      have := hM i j (by have := List.mem_range.mp hi; omega) (by have := List.mem_range.mp hj; omega)
      rw [decide_eq_true (show (0 : Int) - 2 * 60 ≤ M i j by omega), decide_eq_true (show M i j ≤ 2 * 60 by omega)]; rfl]
    decide
  case h9 => -- is 0
    first | rfl | omega | (simp only [decide_eq_true_eq, Bool.and_eq_true, Bool.or_eq_true, Bool.not_eq_false', Bool.not_eq_true', decide_eq_false_iff_not] at q; omega) | (fail)
  case h10 => -- below, value[0]
    first | omega | (simp only [decide_eq_true_eq, Bool.and_eq_true, Bool.or_eq_true, Bool.not_eq_false', Bool.not_eq_true', decide_eq_false_iff_not] at q; omega) | (fail)
  case h11 => -- is 0
    first | rfl | omega | (simp only [decide_eq_true_eq, Bool.and_eq_true, Bool.or_eq_true, Bool.not_eq_false', Bool.not_eq_true', decide_eq_false_iff_not] at q; omega) | (fail)
  case h12 => -- below, value[0][0]
    first | omega | (simp only [decide_eq_true_eq, Bool.and_eq_true, Bool.or_eq_true, Bool.not_eq_false', Bool.not_eq_true', decide_eq_false_iff_not] at q; omega) | (fail)
  case h13 => -- return value[0][0] == 0
    simp only [len_is, all_const] at q
    refine ⟨congrArg PyData.bool ?_, rfl⟩
    have e := q.1.2
    rw [decide_eq_true h0]
    revert e
    cases decide (n = a.length) <;> cases decide (m = b.length) <;> simp
end K12

/-! ## K12Spec2 -/
set_option Elab.async false
set_option linter.all false
set_option maxRecDepth 100000
set_option maxHeartbeats 2000000
/-! k12: more plain facts for the walks -/
namespace K12
open PySem PySem.Spec PyProof.Rows L2 JD

theorem steps_in (s : Step) : (isS s.d && [PyData.str "keep", .str "out", .str "put", .str "turn"].any fun e => eqD e s.d) = true := by cases s <;> decide +kernel
theorem eqv_two (x : Bool) (y v : Int) : (PyData.tuple [.bool x, .int y]).eqv (.tuple [.bool true, .int v]) = (x && decide (y = v)) := by
  have e : (PyData.tuple [.bool x, .int y]).eqv (.tuple [.bool true, .int v]) = ((x == true) && ((y == v) && true)) := by
    simp only [PyData.eqv, PyData.eqvAll]
  rw [e]
  cases x
  · rfl
  · simp [Bool.beq_eq_decide_eq]
theorem size_of {x : Bool} {n a m b : Nat} (h : (!x || !(decide (n = a) && decide (m = b))) = false) : x = true ∧ n = a ∧ m = b := by
  revert h
  cases x
  · simp
  · simp
theorem line0 {n : Nat} {f : Nat → Int} (h : ∀ j, j ≤ n → f j = (j : Int)) : PyData.list (rgD 0 ((n : Int) + 1)) = lnL (n + 1) f := by
  have e : ((n : Int) + 1 - 0).toNat = n + 1 := by omega
  unfold rgD
  rw [e]
  congr 1
  refine List.map_congr_left fun j hj => ?_
  have hj' := List.mem_range.mp hj
  show PyData.int (0 + (j : Int)) = .int (f j)
  rw [h j (by omega), Int.zero_add]
theorem grow (n : Nat) (f : Nat → PyData) : (List.range n).map f ++ [f n] = (List.range (n + 1)).map f := by
  rw [List.range_succ, List.map_append]; rfl
theorem later_next {p r : List Nat} {i j : Nat} (hi : i < r.length) (hj : j < p.length) : (List.range (j + 1)).map (fun q => PyData.int (En p r q (i + 1) : Nat)) ++ [PyData.int (min (min ((En p r j i : Nat) + (if (!decide ([p.getD j 0] = [r.getD i 0])) = true then (1 : Int) else 0)) ((En p r (j + 1) i : Nat) + 1)) ((En p r j (i + 1) : Nat) + 1))] = (List.range (j + 1 + 1)).map (fun q => PyData.int (En p r q (i + 1) : Nat)) := by
  rw [List.range_succ (n := j + 1), List.map_append, dl_of]
  congr 1
  show [PyData.int _] = [PyData.int _]
  have e := En_succ hj hi
  congr 2
  omega
theorem cut_row {r : List Nat} (h : Row r) (lo hi : Option Int) : Row (cutN r lo hi) := by
  unfold cutN
  refine ⟨?_, fun c hc => h.2 c (List.mem_of_mem_drop (List.mem_of_mem_take hc))⟩
  rw [List.length_take, List.length_drop]
  have := h.1
  omega
/-! ### pairs of one number and another -/
abbrev prs (k : Int) (n : Nat) : List PyData := (List.range n).map fun i => .tuple [.int k, .int (i : Nat)]
theorem eqv_nil (l : List PyData) : (PyData.list l).eqv (.list []) = l.isEmpty := by
  cases l <;> simp [PyData.eqv, PyData.eqvAll]
theorem lt_first (k : Int) (i : Nat) : PySem.W.dataLt (.tuple [.int k, .int (i : Nat)]) (.tuple [.int k, .int 0]) = false := by
  rw [PySem.W.dataLt_tuple, PySem.W.dataLt_all_yes (by rfl) (by simp [PyData.eqv])]
  by_cases h : (i : Int) = 0
  · rw [h, PySem.W.dataLt_all_yes (by rfl) (by simp [PyData.eqv])]
    decide
  · rw [PySem.W.dataLt_all_no (by rfl) (by simpa [PyData.eqv] using h), PySem.W.dataLt_int]
    exact decide_eq_false (by omega)
theorem min_first (k : Int) (l : List PyData) (h : ∀ y ∈ l, PySem.W.dataLt y (.tuple [.int k, .int 0]) = false) : PySem.W.minD (.tuple [.int k, .int 0]) l = .tuple [.int k, .int 0] := by
  unfold PySem.W.minD
  induction l with
  | nil => rfl
  | cons y l ih =>
    rw [List.foldl_cons, h y (List.mem_cons_self ..), if_neg Bool.false_ne_true]
    exact ih fun z hz => h z (List.mem_cons_of_mem _ hz)
theorem depth_prs (k : Int) : ∀ (l : List Nat), PyData.depthAll (l.map fun i => PyData.tuple [.int k, .int (i : Nat)]) ≤ 32
  | [] => by simp [PyData.depthAll]
  | i :: l => by
    rw [List.map_cons]
    have := depth_prs k l
    simp only [PyData.depthAll, PyData.depth] at this ⊢
    omega
theorem shaped_prs (k : Int) (n : Nat) : SeqAt.shaped (.list (prs k n)) = true := by
  unfold SeqAt.shaped
  rw [Bool.and_eq_true]
  constructor
  · have h : ∀ l : List Nat, PyData.canLayAll0 (l.map fun i => PyData.tuple [.int k, .int (i : Nat)]) = true := fun l => by
      induction l with
      | nil => rfl
      | cons i l ih => rw [List.map_cons, PyData.canLayAll0, ih]; rfl
    rw [PyData.canLay0]
    exact h _
  · have := depth_prs k (List.range n)
    refine decide_eq_true ?_
    rw [PyData.depth]
    show PyData.depthAll ((List.range n).map fun i => PyData.tuple [.int k, .int (i : Nat)]) + 1 ≤ 64
    omega
theorem prs_succ (k : Int) (n : Nat) : prs k (n + 1) = .tuple [.int k, .int 0] :: (List.range n).map fun i => .tuple [.int k, .int ((i + 1 : Nat) : Int)] := by
  unfold prs
  rw [List.range_succ_eq_map, List.map_cons, List.map_map]; rfl
theorem min_prs (k : Int) (n : Nat) (hn : 0 < n) : ∃ x xs, prs k n = x :: xs ∧ PySem.W.AlikeAll (x :: xs) ∧ PyData.depthAll (x :: xs) ≤ 32 ∧ PySem.W.minD x xs = .tuple [.int k, .int 0] := by
  obtain ⟨m, rfl⟩ : ∃ m, n = m + 1 := ⟨n - 1, by omega⟩
  refine ⟨_, _, prs_succ k m, ?_, ?_, ?_⟩
  · rw [← prs_succ]
    refine ⟨fun x hx y hy => ?_, fun x hx => ?_⟩
    · obtain ⟨i, _, rfl⟩ := List.mem_map.mp hx
      obtain ⟨j, _, rfl⟩ := List.mem_map.mp hy
      rfl
    · obtain ⟨i, _, rfl⟩ := List.mem_map.mp hx
      exact nofun
  · rw [← prs_succ]
    exact depth_prs k _
  · refine min_first k _ fun y hy => ?_
    obtain ⟨i, _, rfl⟩ := List.mem_map.mp hy
    exact lt_first k (i + 1)
end K12

/-! ## K12W4 -/
set_option Elab.async false
set_option linter.all false
set_option maxRecDepth 100000
set_option maxHeartbeats 4000000
namespace K12
open PySem PySem.Spec PyProof.Rows L2 JD

/-! ### shows_changes -/
theorem sc_shows_changes : FnScope ["one", "other", "value", "step"] ["one", "other", "value"] (defScope sshowsUchanges) := ⟨rfl, rfl, rfl, by decide +kernel, rfl, by decide +kernel, by decide +kernel⟩
abbrev R_shows_changes : Says := fun π as d π' => ∃ (a b : List Nat) (n m : Nat) (M : Nat → Nat → Int) (ss : List Step) (v : Int), Row a ∧ Row b ∧ a.length ≤ 60 ∧ b.length ≤ 60 ∧ n ≤ 400 ∧ m ≤ 400 ∧ (∀ i j, i ≤ n → j ≤ m → -120 ≤ M i j ∧ M i j ≤ 120) ∧ M 0 0 = 0 ∧ ss.length ≤ 1000 ∧ 0 ≤ v ∧ v ≤ 120 ∧ as = [.d (st a), .d (st b), .d (.tuple [.int v, .tuple (ss.map Step.d), bdT (n + 1) (m + 1) M])] ∧ d = .bool (shown a b n m M ss v) ∧ π' = π
theorem D_shows_changes {G : Glb} (T : Fx G) (A : As G) : Df G 5 "shows_changes" ["one", "other", "value"] R_shows_changes := by
  refine mkDf A.a_shows_changes sc_shows_changes (fun π as d π' h => by obtain ⟨a, b, n, m, M, ss, v, ha, hb, h60, h60b, hn, hm, hM, h0, hs, hv, hv2, rfl, rfl, rfl⟩ := h; rfl) (fun _ _ _ _ _ _ us hl => match us, hl with | [_, _, _], _ => rfl) fun X c π as d π' h => ?_
  obtain ⟨a, b, n, m, M, ss, v, ha, hb, h60, h60b, hn, hm, hM, h0, hs, hv, hv2, rfl, rfl, rfl⟩ := h
  refine' ⟨_, jss_cons (js_drop (je_call c ((D_check_board T A).mono (by decide)) (ja_cons (je_var c 0) (ja_cons (je_var c 1) (ja_nil))) (fun q => ⟨a, b, ha, hb, h60, h60b, rfl, rfl, rfl⟩)) (fun _ => ⟨rfl, rfl⟩)) <|
    jss_if (JW.jt (jw_or (jt_not (jt_val (je_call c ((D_is_tuple_of T A).mono (by decide)) (ja_cons (je_var c 2) (ja_cons (je_gint c T.i_THREE) (ja_nil))) (fun q => ⟨_, 3, rfl, rfl, rfl⟩)))) (jw_or (jt_not (jt_val (je_call c ((D_is_between T A).mono (by decide)) (ja_cons (je_ix (o_ixT c) (fun q => rv_ixTc0) (je_var c 2) (je_int)) (ja_cons (je_int) (ja_cons (je_op op_mul (fun q => rv_mul ?h1) (je_int) (je_gint c T.i_MOST_BOARD)) (ja_nil)))) (fun q => ⟨v, 0, 2 * 60, rfl, rfl, rfl⟩)))) (jw_or1 (jt_not (jt_val (je_isinst (Tn := "tuple") c (je_ix (o_ixT c) (fun q => rv_ixTc1) (je_var c 2) (je_int)) T.f_isinstance T.f_tuple (fun _ => kit_tuple _))))))))
    (jss_one (js_ret (je_bl) (fun q => ?h2)))
    (jss_if (jt_not (jt_val (je_callB c (o_all c) T.f_all (fun _ => rc_allF) (ds := [_]) (ja_cons (JLc.je c (jlc_map (j := 3) c (ji_tupF Step.keep (je_ix (o_ixT c) (fun q => rv_ixTc1) (je_var c 2) (je_int)) c) (fun q => ?h5) (fun Y cY i => je_and (je_isinst (Tn := "str") cY (je_var cY 3) T.f_isinstance T.f_str (fun _ => kit_str _)) (je_one (je_cmp (o_in cY) (fun q => rv_inT ?h3 ?h4) (je_var cY 3) (je_gref cY T.t_STEPS.choose_spec.1 T.t_STEPS.choose_spec.2)))))) (ja_nil)))))
    (jss_one (js_ret (je_bl) (fun q => ?h6)))
    (jss_if (JW.jt (jw_or (jt_cmp (o_neD c) (fun q => rv_neD ?h7 ?h8) (je_call c ((D_led_by T A).mono (by decide)) (ja_cons (je_var c 0) (ja_cons (je_var c 1) (ja_cons (je_ix (o_ixT c) (fun q => rv_ixTc1) (je_var c 2) (je_int)) (ja_nil)))) (fun q => ⟨a, b, ss, ha, hb, hs, rfl, rfl, rfl⟩)) (je_tup (ds := [_, _]) (ja_cons (je_bl) (ja_cons (je_ix (o_ixT c) (fun q => rv_ixTc0) (je_var c 2) (je_int)) (ja_nil))) (by show 2 ≤ sizeLine; decide))) (jw_or1 (jt_not (jt_val (je_call c ((D_is_board T A).mono (by decide)) (ja_cons (je_var c 0) (ja_cons (je_var c 1) (ja_cons (je_ix (o_ixT c) (fun q => rv_ixTc2) (je_var c 2) (je_int)) (ja_nil)))) (fun q => ⟨a, b, n, m, M, ha, hb, hn, hm, hM, h0, rfl, rfl, rfl⟩)))))))
    (jss_one (js_ret (je_bl) (fun q => ?h9)))
    (jss_one (js_ret (je_and (je_call c ((D_is_priced T A).mono (by decide)) (ja_cons (je_var c 0) (ja_cons (je_var c 1) (ja_cons (je_ix (o_ixT c) (fun q => rv_ixTc2) (je_var c 2) (je_int)) (ja_nil)))) (fun q => ⟨a, b, M, ha, hb, (by obtain ⟨_, e1, e2⟩ := size_of q.2; rw [e1, e2]), rfl, rfl⟩)) (je_one (je_cmp op_eq (fun q => rv_eqI) (je_ix (o_ixT c) (fun q => rv_ixTE (n := m) (f := (fun j => .int (M n j)))) (je_ix (o_ixT c) (fun q => rv_ixTE (n := n) (f := (fun i => ln (m + 1) (M i)))) (je_ix (o_ixT c) (fun q => rv_ixTc2) (je_var c 2) (je_int)) (je_un un_neg (fun _ => ru_neg) (je_int))) (je_un un_neg (fun _ => ru_neg) (je_int))) (je_ix (o_ixT c) (fun q => rv_ixTc0) (je_var c 2) (je_int))))) (fun q => ?h10)))))⟩
  case h1 => -- 2 * MOST_BOARD
    exact .inl ⟨by decide, by decide⟩
  case h2 => -- return False
    refine absurd q.2 ?_
    rw [decide_eq_true hv, decide_eq_true (show v ≤ 2 * 60 by omega)]
    exact fun z => Bool.noConfusion (show false = true from z)
  case h3 => -- scalar
    rfl
  case h4 => -- scalars
    rfl
  case h5 => -- few items
    omega
  case h6 => -- return False
    refine absurd q.2 ?_
    rw [List.all_eq_true.mpr fun i _ => steps_in (ss.getD i .keep)]
    decide
  case h7 => -- shaped
    rfl
  case h8 => -- shaped
    rfl
  case h9 => -- return False
    have e := q.2
    rw [eqv_two] at e
    refine ⟨congrArg PyData.bool ?_, rfl⟩
    unfold shown
    revert e
    cases ((led a b ss (0, 0, 0)).1 && decide (((led a b ss (0, 0, 0)).2 : Int) = v)) <;> cases (decide (n = a.length) && decide (m = b.length)) <;> simp
  case h10 => -- return is_priced(one, other, value[2]) and value[2][-1][-1] == value[0]
    have e := q.2
    rw [eqv_two] at e
    refine ⟨congrArg PyData.bool ?_, rfl⟩
    unfold shown
    revert e
    cases ((led a b ss (0, 0, 0)).1 && decide (((led a b ss (0, 0, 0)).2 : Int) = v)) <;> cases (decide (n = a.length) && decide (m = b.length)) <;> simp
/-! ### last_line -/
theorem sc_last_line : FnScope ["piece", "row", "line", "found", "letter", "later", "at", "mine"] ["piece", "row"] (defScope slastUline) := ⟨rfl, rfl, rfl, by decide +kernel, rfl, by decide +kernel, by decide +kernel⟩
abbrev R_last_line : Says := fun π as d π' => ∃ p r, Row p ∧ Row r ∧ as = [.d (st p), .d (st r)] ∧ d = lnL (r.length + 1) (fun i => (En p r p.length i : Nat)) ∧ π' = π
theorem D_last_line {G : Glb} (T : Fx G) (A : As G) : Df G 1 "last_line" ["piece", "row"] R_last_line := by
  refine mkDf A.a_last_line sc_last_line (fun π as d π' h => by obtain ⟨p, r, ha, hb, rfl, rfl, rfl⟩ := h; rfl) (fun _ _ _ _ _ _ us hl => match us, hl with | [_, _], _ => rfl) fun X c π as d π' h => ?_
  obtain ⟨p, r, ha, hb, rfl, rfl, rfl⟩ := h
  refine' ⟨_, jss_cons (js_asg c 2 (JE.is (d2 := lnL (p.length + 1) fun j => (En p r j 0 : Nat)) (JL.je (jl_listRg c (je_op op_add (fun _ => rv_add) (je_callB c call_len_str T.f_len (fun q => rc_lenS ?h1) (ds := [_]) (ja_cons (je_var c 0) (ja_nil))) (je_int)) (fun q => ?h2) T.f_range T.f_list)) (fun q => ?h3))) <|
    jss_cons (js_asgL c 3 (jl_lst (ds := [_]) (ja_cons (je_ix (o_ixL c) (fun q => rv_ixLE) (je_var c 2) (je_un un_neg (fun _ => ru_neg) (je_int))) (ja_nil)) (by show 1 ≤ sizeLine; decide))) <|
    jss_cons (js_for c [4, 5, 6, 7] (fun i => [.val (st p), .val (st r), .val (lnL (p.length + 1) fun j => (En p r j i : Nat)), .own ((List.range (i + 1)).map fun q => .int (En p r p.length q : Nat)), .un, .un, .un, .un]) (fun i => [.val (st p), .val (st r), .val (lnL (p.length + 1) fun j => (En p r j i : Nat)), .own ((List.range (i + 1)).map fun q => .int (En p r p.length q : Nat)), .val (st [r.getD i 0]), .un, .un, .un]) (fun _ => π') (fun i => i ≤ r.length) (ji_strS (je_var c 1)) (pg_nameG c 4) (fun q => ?h15) (fun _ => eg_name)
    (fun i => jss_cons (js_asgL c 5 (jl_lst (ds := [_]) (ja_cons (je_int) (ja_nil)) (by show 1 ≤ sizeLine; decide))) <|
    jss_cons (js_for c [6, 7] (fun j => [.val (st p), .val (st r), .val (lnL (p.length + 1) fun j => (En p r j i : Nat)), .own ((List.range (i + 1)).map fun q => .int (En p r p.length q : Nat)), .val (st [r.getD i 0]), .own ((List.range (j + 1)).map fun q => .int (En p r q (i + 1) : Nat)), .un, .un]) (fun j => [.val (st p), .val (st r), .val (lnL (p.length + 1) fun j => (En p r j i : Nat)), .own ((List.range (i + 1)).map fun q => .int (En p r p.length q : Nat)), .val (st [r.getD i 0]), .own ((List.range (j + 1)).map fun q => .int (En p r q (i + 1) : Nat)), .val (.int (j : Int)), .val (st [p.getD j 0])]) (fun _ => π') (fun j => j ≤ p.length) (ji_enumS c (je_var c 0) T.f_enumerate) (pg2G c 6 7) (fun q => ?h12) (fun _ => eg_tup2)
    (fun j => jss_cons (js_append c 5 (je_callB c (call_min3Nu c.calm) T.f_min (fun _ => rc_min3) (ds := [_, _, _]) (ja_cons (je_op op_add (fun _ => rv_add) (je_ix (o_ixL c) (fun q => rv_ixLR (i := j) ?h4 ?h5) (je_var c 2) (je_var c 6)) (je_callTy c call_int1 T.f_int (fun _ => rc_intB) (ds := [_]) (ja_cons (je_cmp op_ne (fun q => rv_neC) (je_var c 7) (je_var c 4)) (ja_nil)))) (ja_cons (je_op op_add (fun _ => rv_add) (je_ix (o_ixL c) (fun q => rv_ixLR (i := j + 1) ?h6 ?h7) (je_var c 2) (je_op op_add (fun _ => rv_add) (je_var c 6) (je_int))) (je_int)) (ja_cons (je_op op_add (fun _ => rv_add) (je_ixOwn c 5 (je_var c 6) (fun q => own_at (i := j) ?h8 ?h9)) (je_int)) (ja_nil))))) (hz := (fun q => ?h10))) <|
    jss_nil (fun q => ?h11))
    (fun q gq => ⟨rfl, rfl⟩)) <|
    js_freeze 5 rfl <| jss_cons (js_asg c 2 (je_var c 5)) <|
    jss_cons (js_append c 3 (je_ix (o_ixL c) (fun q => rv_ixLE) (je_var c 2) (je_un un_neg (fun _ => ru_neg) (je_int))) (hz := (fun q => ?h13))) <|
    jss_nil (fun q => ?h14))
    (fun q gq => ⟨rfl, rfl⟩)) <|
    js_freeze 3 rfl <| jss_one (js_ret (je_var c 3) (fun q => ?h16))⟩
  case h1 => -- length
    first | exact ha.line | exact hb.line | exact hr.line
  case h2 => -- range ok
    exact rg_small (by have := ha.1; omega)
  case h3 => -- as line
    exact line0 fun j hj => by rw [En_n0 p r hj]
  case h4 => -- is at
    first | rfl | omega | (simp only [decide_eq_true_eq, Bool.and_eq_true, Bool.or_eq_true, Bool.not_eq_false', Bool.not_eq_true', decide_eq_false_iff_not] at q; omega) | (fail)
  case h5 => -- below, line[at]
    first | omega | (simp only [decide_eq_true_eq, Bool.and_eq_true, Bool.or_eq_true, Bool.not_eq_false', Bool.not_eq_true', decide_eq_false_iff_not] at q; omega) | (fail)
  case h6 => -- is at + 1
    first | rfl | omega | (simp only [decide_eq_true_eq, Bool.and_eq_true, Bool.or_eq_true, Bool.not_eq_false', Bool.not_eq_true', decide_eq_false_iff_not] at q; omega) | (fail)
  case h7 => -- below, line[at + 1]
    first | omega | (simp only [decide_eq_true_eq, Bool.and_eq_true, Bool.or_eq_true, Bool.not_eq_false', Bool.not_eq_true', decide_eq_false_iff_not] at q; omega) | (fail)
  case h8 => -- is at
    first | rfl | omega | (simp only [decide_eq_true_eq, Bool.and_eq_true, Bool.or_eq_true, Bool.not_eq_false', Bool.not_eq_true', decide_eq_false_iff_not] at q; omega) | (fail)
  case h9 => -- below, later[at]
    first | omega | (simp only [decide_eq_true_eq, Bool.and_eq_true, Bool.or_eq_true, Bool.not_eq_false', Bool.not_eq_true', decide_eq_false_iff_not] at q; omega) | (fail)
  case h10 => -- size
    rw [List.length_map, List.length_range, sizeLine_eq]; have := ha.1; omega
  case h11 => -- turn
    exact ⟨congrArg (fun z => ([_, _, _, _, _, Sl.own z, Sl.un, Sl.un] : List Sl)) (later_next q.1.2.1 q.2.1), rfl, q.2.1⟩
  case h12 => -- start
    refine ⟨?_, rfl, Nat.zero_le _⟩
    exact congrArg (fun z => ([_, _, _, _, _, Sl.own z, Sl.un, Sl.un] : List Sl)) (by
      show [PyData.int 0] = [PyData.int (En p r 0 (i + 1) : Nat)]
      rw [En_0]; rfl)
  case h13 => -- size
    rw [List.length_map, List.length_range, sizeLine_eq]; have := hb.1; omega
  case h14 => -- turn
    exact ⟨congrArg (fun z => ([_, _, _, Sl.own z, Sl.un, Sl.un, Sl.un, Sl.un] : List Sl)) (grow (i + 1) fun q => .int (En p r p.length q : Nat)), rfl, q.2.1⟩
  case h15 => -- start
    exact ⟨rfl, rfl, Nat.zero_le _⟩
  case h16 => -- return found
    first | exact ⟨rfl, rfl⟩ | (fail)
/-! ### nearly_at -/
theorem sc_nearly_at : FnScope ["row", "piece", "most", "end", "many"] ["row", "piece", "most"] (defScope snearlyUat) := ⟨rfl, rfl, rfl, by decide +kernel, rfl, by decide +kernel, by decide +kernel⟩
abbrev R_nearly_at : Says := fun π as d π' => ∃ (r p : List Nat) (v : Int), Row r ∧ Row p ∧ p.length ≤ 60 ∧ 0 ≤ v ∧ v ≤ 60 ∧ as = [.d (st r), .d (st p), .d (.int v)] ∧ d = .tuple ((near p r v).map JD.pairD) ∧ π' = π
theorem D_nearly_at {G : Glb} (T : Fx G) (A : As G) : DfX G 3 "nearly_at" ["row", "piece", "most"] R_nearly_at PlainT := by
  refine mkDfX A.a_nearly_at sc_nearly_at (fun π as d π' h => by obtain ⟨r, p, v, ha, hb, hp, hv, hv2, rfl, rfl, rfl⟩ := h; rfl) (fun _ _ _ _ _ _ us hl => match us, hl with | [_, _, _], _ => rfl) fun X c π as d π' h => ?_
  obtain ⟨r, p, v, ha, hb, hp, hv, hv2, rfl, rfl, rfl⟩ := h
  refine' ⟨_, jss_cons (js_drop (je_call c ((D_check_row T A).mono (by decide)) (ja_cons (je_var c 0) (ja_nil)) (fun q => ⟨r, ha, rfl, rfl, rfl⟩)) (fun _ => ⟨rfl, rfl⟩)) <|
    jss_cons (js_drop (je_call c ((D_check_row T A).mono (by decide)) (ja_cons (je_var c 1) (ja_nil)) (fun q => ⟨p, hb, rfl, rfl, rfl⟩)) (fun _ => ⟨rfl, rfl⟩)) <|
    jss_if (jt_not (jt_val (je_call c ((D_is_between T A).mono (by decide)) (ja_cons (je_var c 2) (ja_cons (je_int) (ja_cons (je_gint c T.i_MOST_BOARD) (ja_nil)))) (fun q => ⟨v, 0, 60, rfl, rfl, rfl⟩))))
    (jss_never (fun q => ?h1))
    (jss_if (jt_cmp op_gt (fun q => rv_gt) (je_callB c call_len_str T.f_len (fun q => rc_lenS ?h2) (ds := [_]) (ja_cons (je_var c 1) (ja_nil))) (je_gint c T.i_MOST_BOARD))
    (jss_never (fun q => ?h3))
    (jss_one (js_retPl c (JLc.jl c (jlc_filter2 (j := 3) (l := 4) c (ji_enumLR c (je_call c ((D_last_line T A).mono (by decide)) (ja_cons (je_var c 1) (ja_cons (je_var c 0) (ja_nil))) (fun q => ⟨p, r, hb, ha, rfl, rfl, rfl⟩)) T.f_enumerate) (fun q => ?h4) (fun Y cY i => jt_cmp op_le (fun q => rv_le) (je_var cY 4) (je_var cY 2)) (fun Y cY i => je_tup (ds := [_, _]) (ja_cons (je_var cY 3) (ja_cons (je_var cY 4) (ja_nil))) (by show 2 ≤ sizeLine; decide)))) T.f_tuple (fun q => ?h5) (fun v H h => h))))⟩
  case h1 => -- never
    refine absurd q.2 ?_
    rw [decide_eq_true hv, decide_eq_true hv2]
    decide
  case h2 => -- length
    first | exact ha.line | exact hb.line | exact hr.line
  case h3 => -- never
    exact absurd (of_decide_eq_true q.2) (by omega)
  case h4 => -- few items
    have := ha.1; omega
  case h5 => -- return tuple([(end, many) for end, many in enumerate(last_line(piece, row)) if many <= most])
    exact ⟨by unfold given near; rw [List.map_map]; rfl, rfl⟩
/-! ### nearest_in -/
theorem sc_nearest_in : FnScope ["row", "piece", "found", "at"] ["row", "piece"] (defScope snearestUin) := ⟨rfl, rfl, rfl, by decide +kernel, rfl, by decide +kernel, by decide +kernel⟩
abbrev R_nearest_in : Says := fun π as d π' => ∃ (r p : List Nat), Row r ∧ Row p ∧ (∀ i, i + p.length ≤ r.length → unl (cutN r (some (i : Int)) (some ((i : Int) + (p.length : Nat)))) p = p.length) ∧ as = [.d (st r), .d (st p)] ∧ d = (if p.length ≤ r.length then .tuple [.int (p.length : Nat), .int 0] else .none) ∧ π' = π
theorem D_nearest_in {G : Glb} (T : Fx G) (A : As G) : Df G 3 "nearest_in" ["row", "piece"] R_nearest_in := by
  refine mkDf A.a_nearest_in sc_nearest_in (fun π as d π' h => by obtain ⟨r, p, ha, hb, hu, rfl, rfl, rfl⟩ := h; rfl) (fun _ _ _ _ _ _ us hl => match us, hl with | [_, _], _ => rfl) fun X c π as d π' h => ?_
  obtain ⟨r, p, ha, hb, hu, rfl, rfl, rfl⟩ := h
  refine' ⟨_, jss_cons (js_drop (je_call c ((D_check_row T A).mono (by decide)) (ja_cons (je_var c 0) (ja_nil)) (fun q => ⟨r, ha, rfl, rfl, rfl⟩)) (fun _ => ⟨rfl, rfl⟩)) <|
    jss_cons (js_drop (je_call c ((D_check_row T A).mono (by decide)) (ja_cons (je_var c 1) (ja_nil)) (fun q => ⟨p, hb, rfl, rfl, rfl⟩)) (fun _ => ⟨rfl, rfl⟩)) <|
    jss_cons (js_asgLc c 2 (JLc.is (es := prs (p.length : Nat) (((r.length : Nat) : Int) - (p.length : Nat) + 1).toNat) (jlc_map (j := 3) c (ji_rng1 c (je_op op_add (fun _ => rv_add) (je_op op_sub (fun _ => rv_sub) (je_callB c call_len_str T.f_len (fun q => rc_lenS ?h1) (ds := [_]) (ja_cons (je_var c 0) (ja_nil))) (je_callB c call_len_str T.f_len (fun q => rc_lenS ?h2) (ds := [_]) (ja_cons (je_var c 1) (ja_nil)))) (je_int)) (fun q => ?h3) T.f_range) (fun q => ?h6) (fun Y cY i => je_tup (ds := [_, _]) (ja_cons (je_call cY ((D_unlike_of T A).mono (by decide)) (ja_cons (je_slS (je_var cY 0) (jo_some (je_var cY 3)) (jo_some (je_op op_add (fun _ => rv_add) (je_var cY 3) (je_callB cY call_len_str T.f_len (fun q => rc_lenS ?h4) (ds := [_]) (ja_cons (je_var cY 1) (ja_nil))))) (fun q => ?h5)) (ja_cons (je_var cY 1) (ja_nil))) (fun q => ⟨_, p, cut_row ha _ _, hb, rfl, rfl, rfl⟩)) (ja_cons (je_var cY 3) (ja_nil))) (by show 2 ≤ sizeLine; decide))) (fun q => ?h7))) <|
    jss_one (js_ret (je_if' (jt_cmp (o_neD c) (fun q => rv_neD ?h8 ?h9) (je_var c 2) (JL.je (jl_lst (ds := []) (ja_nil) (by show 0 ≤ sizeLine; decide)))) (je_callB c (o_minD c) T.f_min (fun q => rc_minD (v := .tuple [.int (p.length : Nat), .int 0]) ?h10) (ds := [_]) (ja_cons (je_var c 2) (ja_nil))) (je_non)) (fun q => ?h11))⟩
  case h1 => -- length
    first | exact ha.line | exact hb.line | exact hr.line
  case h2 => -- length
    first | exact ha.line | exact hb.line | exact hr.line
  case h3 => -- range
    have := ha.1; have := hb.1; omega
  case h4 => -- length
    first | exact ha.line | exact hb.line | exact hr.line
  case h5 => -- length
    first | exact ha.line | exact hb.line | exact hr.line
  case h6 => -- few items
    have := ha.1; have := hb.1; omega
  case h7 => -- as found
    refine List.map_congr_left fun i hi => ?_
    have hi' := List.mem_range.mp hi
    show PyData.tuple [.int (unl (cutN r (some (i : Int)) (some ((i : Int) + (p.length : Nat)))) p : Nat), .int (i : Nat)] = .tuple [.int (p.length : Nat), .int (i : Nat)]
    rw [hu i (by omega)]
  case h8 => -- shaped
    exact shaped_prs _ _
  case h9 => -- shaped
    rfl
  case h10 => -- min
    refine min_prs _ _ ?_
    have e := q.2
    rw [eqv_nil] at e
    rcases Nat.eq_zero_or_pos (((r.length : Nat) : Int) - (p.length : Nat) + 1).toNat with z | z
    · rw [z] at e; exact Bool.noConfusion (show false = true from e)
    · exact z
  case h11 => -- return min(found) if found != [] else None
    refine ⟨?_, rfl⟩
    rw [eqv_nil]
    by_cases z : p.length ≤ r.length
    · rw [if_pos z]
      obtain ⟨m, hm⟩ : ∃ m, (((r.length : Nat) : Int) - (p.length : Nat) + 1).toNat = m + 1 := ⟨r.length - p.length, by omega⟩
      rw [hm, prs_succ]; rfl
    · rw [if_neg z, show (((r.length : Nat) : Int) - (p.length : Nat) + 1).toNat = 0 by omega]; rfl
end K12

/-! ## K12Law -/
set_option Elab.async false
set_option linter.all false
set_option maxRecDepth 100000
set_option maxHeartbeats 2000000
/-! k12: the law's own helpers in plain words -/
namespace K12
open PySem PySem.Spec PyProof.Rows L2 JD

def primeOf (c : Int) : Int := if c % 4 = 0 then 2147483647 else if c % 4 = 1 then 2147483629 else if c % 4 = 2 then 2147483587 else 2147483579
def blendOf (π : Pot) : Int := (π.b + 172921 * (π.c + 1) * (π.c + 1) + 5617) ^ 3 % primeOf (π.c + 1)
/-- one draw -/
def takeV (π : Pot) (n : Int) : Int := if 0 < π.a then π.a % n else (blendOf π * (blendOf π % 10007 + 4675 * (π.c + 1)) / 307) % n
def takeP (π : Pot) (n : Int) : Pot := if 0 < π.a then ⟨π.a / n, π.b, π.c⟩ else ⟨π.a, π.b, π.c + 1⟩
/-- a pot as the law makes it, behind at most k draws from its second number -/
structure PotN (k : Nat) (π : Pot) : Prop where
  b0 : 0 ≤ π.b
  b1 : π.b < 2 ^ 61
  c0 : 0 ≤ π.c
  c1 : π.c ≤ k
theorem PotN.mono {j k : Nat} {π : Pot} (h : PotN j π) (l : j ≤ k) : PotN k π := ⟨h.b0, h.b1, h.c0, by have := h.c1; omega⟩
theorem PotN.take {k : Nat} {π : Pot} (h : PotN k π) (n : Int) : PotN (k + 1) (takeP π n) := by
  unfold takeP
  split
  · exact ⟨h.b0, h.b1, h.c0, by have := h.c1; show π.c ≤ _; omega⟩
  · exact ⟨h.b0, h.b1, by have := h.c0; show 0 ≤ π.c + 1; omega, by have := h.c1; show π.c + 1 ≤ _; omega⟩
theorem take_in (π : Pot) {n : Int} (hn : 0 < n) : 0 ≤ takeV π n ∧ takeV π n < n := by
  unfold takeV
  split
  · exact ⟨Int.emod_nonneg _ (by omega), Int.emod_lt_of_pos _ hn⟩
  · exact ⟨Int.emod_nonneg _ (by omega), Int.emod_lt_of_pos _ hn⟩
theorem primeOf_pos (c : Int) : 0 < primeOf c ∧ primeOf c ≤ 2147483647 := by
  unfold primeOf
  split
  · decide
  · split
    · decide
    · split <;> decide
theorem primes_at (c : Int) : atI [PyData.int 2147483647, .int 2147483629, .int 2147483587, .int 2147483579] (c % 4) = some (.int (primeOf c)) := by
  have h : c % 4 = 0 ∨ c % 4 = 1 ∨ c % 4 = 2 ∨ c % 4 = 3 := by omega
  unfold primeOf
  rcases h with h | h | h | h
  · rw [h]; exact at_nat (j := 0) rfl rfl
  · rw [h]; exact at_nat (j := 1) rfl rfl
  · rw [h]; exact at_nat (j := 2) rfl rfl
  · rw [h]; exact at_nat (j := 3) rfl rfl
theorem blend_in (π : Pot) : 0 ≤ blendOf π ∧ blendOf π < 2147483647 + 1 := by
  have h := primeOf_pos (π.c + 1)
  unfold blendOf
  have h1 := Int.emod_nonneg ((π.b + 172921 * (π.c + 1) * (π.c + 1) + 5617) ^ 3) (show primeOf (π.c + 1) ≠ 0 by omega)
  have h2 := Int.emod_lt_of_pos ((π.b + 172921 * (π.c + 1) * (π.c + 1) + 5617) ^ 3) h.1
  omega
/-- the base of the power stays small -/
theorem base_in {k : Nat} {π : Pot} (h : PotN k π) (hk : k ≤ 10000) : (π.b + 172921 * (π.c + 1) * (π.c + 1) + 5617).natAbs < 2 ^ 64 := by
  have := h.b0; have := h.b1; have h0 := h.c0; have h1 := h.c1
  have e1 : 172921 * (π.c + 1) * (π.c + 1) ≤ 172921 * 10001 * 10001 := by
    have a1 : 172921 * (π.c + 1) ≤ 172921 * 10001 := by omega
    exact Int.mul_le_mul a1 (by omega) (by omega) (by omega)
  have e0 : 0 ≤ 172921 * (π.c + 1) * (π.c + 1) := Int.mul_nonneg (by omega) (by omega)
  omega
/-! ### rows drawn -/
def rowS (l : List Nat) : Nat → Pot → Pot
  | 0, π => π
  | n + 1, π => takeP (rowS l n π) l.length
theorem rowS_N (l : List Nat) {k : Nat} {π : Pot} (h : PotN k π) : ∀ n, PotN (k + n) (rowS l n π)
  | 0 => h
  | n + 1 => (rowS_N l h n).take _
def rowN (π : Pot) (lo hi : Int) : Nat := (lo + takeV π (hi - lo + 1)).toNat
def rowAt (l : List Nat) (π : Pot) (i : Nat) : List Nat := [l.getD (takeV (rowS l i π) l.length).toNat 0]
def rowV (π : Pot) (l : List Nat) (lo hi : Int) : List Nat := ((List.range (rowN π lo hi)).map (rowAt l (takeP π (hi - lo + 1)))).flatten
def rowP (π : Pot) (l : List Nat) (lo hi : Int) : Pot := rowS l (rowN π lo hi) (takeP π (hi - lo + 1))
theorem rowN_in {π : Pot} {lo hi : Int} (h0 : 0 ≤ lo) (h : lo ≤ hi) : lo ≤ rowN π lo hi ∧ (rowN π lo hi : Int) ≤ hi := by
  have := take_in π (n := hi - lo + 1) (by omega)
  unfold rowN; omega
theorem ones_len {f : Nat → List Nat} (n : Nat) (h : ∀ i, (f i).length = 1) : ((List.range n).map f).flatten.length = n := by
  induction n with
  | zero => rfl
  | succ n ih => rw [List.range_succ, List.map_append, List.flatten_append, List.length_append, ih]; simp [h]
theorem ones_sum {f : Nat → List Nat} (n : Nat) (h : ∀ i, (f i).length = 1) : (((List.range n).map f).map List.length).sum = n := by
  have := ones_len n h
  rw [List.length_flatten] at this
  exact this
theorem rowV_len (π : Pot) (l : List Nat) (lo hi : Int) : (rowV π l lo hi).length = rowN π lo hi := ones_len _ fun _ => rfl
theorem rowV_in {π : Pot} {l : List Nat} {lo hi : Int} (hl : l ≠ []) : ∀ c ∈ rowV π l lo hi, c ∈ l := by
  intro c hc
  obtain ⟨s, hs, hc⟩ := List.mem_flatten.mp hc
  obtain ⟨i, _, rfl⟩ := List.mem_map.mp hs
  rw [show c = _ from List.mem_singleton.mp hc]
  have hl' : 0 < l.length := List.length_pos_iff.mpr hl
  have := take_in (rowS l i (takeP π (hi - lo + 1))) (n := (l.length : Nat)) (by omega)
  exact getD_in (by omega)
theorem rowP_N {k : Nat} {π : Pot} {l : List Nat} {lo hi : Int} (h : PotN k π) (h0 : 0 ≤ lo) (hh : lo ≤ hi) : PotN (k + 1 + hi.toNat) (rowP π l lo hi) := by
  have := rowN_in (π := π) h0 hh
  exact (rowS_N l (h.take _) _).mono (by omega)
theorem erase_perm : ∀ (l : List Int) (j : Nat) (h : j < l.length), (l[j] :: l.eraseIdx j).Perm l
  | [], _, h => absurd h (Nat.not_lt_zero _)
  | x :: l, 0, _ => List.Perm.refl _
  | x :: l, j + 1, h => by
    have ih := erase_perm l j (by simpa using h)
    show ((x :: l)[j + 1] :: x :: l.eraseIdx j).Perm (x :: l)
    exact (List.Perm.swap _ _ _).trans (ih.cons x)
/-! ### some of a list drawn -/
def someS : Nat → List Int × List Int × Pot → List Int × List Int × Pot
  | 0, s => s
  | n + 1, s =>
    let t := someS n s
    let j := (takeV t.2.2 t.1.length).toNat
    (t.1.eraseIdx j, t.2.1 ++ [t.1.getD j 0], takeP t.2.2 t.1.length)
theorem someS_ok (xs : List Int) (π : Pot) {k : Nat} (h : PotN k π) : ∀ n, n ≤ xs.length → (someS n (xs, [], π)).1.length + n = xs.length ∧ (someS n (xs, [], π)).2.1.length = n ∧ ((someS n (xs, [], π)).2.1 ++ (someS n (xs, [], π)).1).Perm xs ∧ PotN (k + n) (someS n (xs, [], π)).2.2
  | 0, _ => ⟨rfl, rfl, List.Perm.refl _, h⟩
  | n + 1, hn => by
    obtain ⟨h1, h2, h3, h4⟩ := someS_ok xs π h n (by omega)
    have hl : 0 < (someS n (xs, [], π)).1.length := by omega
    have hj := take_in (someS n (xs, [], π)).2.2 (n := ((someS n (xs, [], π)).1.length : Nat)) (by omega)
    have hj' : (takeV (someS n (xs, [], π)).2.2 (someS n (xs, [], π)).1.length).toNat < (someS n (xs, [], π)).1.length := by omega
    refine ⟨?_, ?_, ?_, h4.take _⟩
    · show ((someS n (xs, [], π)).1.eraseIdx _).length + (n + 1) = _
      rw [List.length_eraseIdx_of_lt hj']; omega
    · show ((someS n (xs, [], π)).2.1 ++ [_]).length = _
      rw [List.length_append, h2]; rfl
    · show (((someS n (xs, [], π)).2.1 ++ [(someS n (xs, [], π)).1.getD _ 0]) ++ (someS n (xs, [], π)).1.eraseIdx _).Perm xs
      refine List.Perm.trans ?_ h3
      rw [List.append_assoc]
      refine List.Perm.append_left _ ?_
      rw [List.getD_eq_getElem?_getD, List.getElem?_eq_getElem hj']
      exact erase_perm _ _ hj'
def cellsN (n : Nat) : Int := if (if (n : Int) < 3 then (n : Int) else 3) > 1 then (if (n : Int) < 3 then (n : Int) else 3) else 1
theorem cells_in (n : Nat) : 1 ≤ cellsN n ∧ cellsN n ≤ 3 := by unfold cellsN; split <;> split <;> omega
theorem cells_ok (n : Nat) : RgOk 0 (cellsN n) := RgOk.of_le (by decide) (by have := cells_in n; omega) (by decide) (by have := cells_in n; omega)
theorem choose_mul : ∀ (n m d : Nat), m + d = n → choose n (m + 1) * (m + 1) = choose n m * d := by
  intro n
  induction n with
  | zero =>
    intro m d h
    have e1 : m = 0 := by omega
    have e2 : d = 0 := by omega
    subst e1 e2; rfl
  | succ n ih =>
    intro m d h
    cases m with
    | zero =>
      have := ih 0 n (by omega)
      have e0 : choose n 0 = 1 := by cases n <;> rfl
      have e1 : choose (n + 1) 1 = choose n 0 + choose n 1 := rfl
      have e2 : choose (n + 1) 0 = 1 := rfl
      rw [Nat.zero_add, e0, Nat.one_mul, Nat.mul_one] at this
      rw [Nat.zero_add, e1, e2]
      omega
    | succ m =>
      have e1 : choose (n + 1) (m + 1 + 1) = choose n (m + 1) + choose n (m + 1 + 1) := rfl
      have e2 : choose (n + 1) (m + 1) = choose n m + choose n (m + 1) := rfl
      cases d with
      | zero =>
        have z1 : choose n (m + 1) = 0 := choose_big _ _ (by omega)
        have z2 : choose n (m + 1 + 1) = 0 := choose_big _ _ (by omega)
        rw [e1, z1, z2]; simp
      | succ d =>
        have i1 := ih (m + 1) d (by omega)
        have i2 := ih m (d + 1) (by omega)
        rw [e1, e2, Nat.add_mul, Nat.add_mul, i1, ← i2]
        generalize choose n (m + 1) = A
        rw [Nat.mul_add A (m + 1) 1, Nat.mul_add A d 1]
        omega
theorem choose_next {n i : Nat} (h : i < n) : ((choose n i : Nat) : Int) * ((n : Int) - (i : Int)) / ((i : Int) + 1) = (choose n (i + 1) : Nat) := by
  have e := choose_mul n i (n - i) (by omega)
  have e2 : ((choose n i : Nat) : Int) * ((n : Int) - (i : Int)) = ((choose n (i + 1) : Nat) : Int) * ((i : Int) + 1) := by
    have : ((n - i : Nat) : Int) = (n : Int) - (i : Int) := by omega
    rw [← this]
    exact_mod_cast e.symm
  rw [e2, Int.mul_ediv_cancel _ (by omega)]
theorem ints_scal (ps : List Int) : (ps.map PyData.int).all scalD = true := List.all_eq_true.mpr fun x hx => by
  obtain ⟨i, _, rfl⟩ := List.mem_map.mp hx
  rfl
end K12

/-! ## K12W5 -/
set_option Elab.async false
set_option linter.all false
set_option maxRecDepth 100000
set_option maxHeartbeats 4000000
namespace K12
open PySem PySem.Spec PyProof.Rows L2 JD

/-! ### _law_take -/
theorem sc__law_take : FnScope ["pot", "upto", "digit", "prime", "blend"] ["pot", "upto"] (defScope sUlawUtake) := ⟨rfl, rfl, rfl, by decide +kernel, rfl, by decide +kernel, by decide +kernel⟩
abbrev R__law_take : Says := fun π as d π' => ∃ (n : Int), PotN 9000 π ∧ 0 < n ∧ n ≤ 1000000 ∧ as = [.pot, .d (.int n)] ∧ d = .int (takeV π n) ∧ π' = takeP π n
theorem D__law_take {G : Glb} (T : Fx G) (A : As G) : Df G 1 "_law_take" ["pot", "upto"] R__law_take := by
  refine mkDf A.a__law_take sc__law_take (fun π as d π' h => by obtain ⟨n, hp, h0, h1, rfl, rfl, rfl⟩ := h; rfl) (fun _ _ _ _ _ _ us hl => match us, hl with | [_, _], _ => rfl) fun X c π as d π' h => ?_
  obtain ⟨n, hp, h0, h1, rfl, rfl, rfl⟩ := h
  refine' ⟨_, jss_if (jt_cmp op_gt (fun q => rv_gt) (je_ixPot c 0 (je_int) (fun _ => pot_at0)) (je_int))
    (jss_cons (js_asg c 2 (je_op op_mod (fun q => rv_mod ?h1) (je_callTy c call_int1 T.f_int (fun _ => rc_int) (ds := [_]) (ja_cons (je_ixPot c 0 (je_int) (fun _ => pot_at0)) (ja_nil))) (je_var c 1))) <|
    jss_cons (π1 := ⟨π.a / n, π.b, π.c⟩) (js_setPot c 0 (je_op op_fdiv (fun q => rv_fdiv ?h2) (je_ixPot c 0 (je_int) (fun _ => pot_at0)) (je_var c 1)) (je_int) rfl rfl (π' := ⟨π.a / n, π.b, π.c⟩)) <|
    jss_one (js_ret (je_var c 2) (fun q => ?h3)))
    (jss_cons (π1 := ⟨π.a, π.b, π.c + 1⟩) (js_setPot c 0 (je_op op_add (fun _ => rv_add) (je_ixPot c 0 (je_int) (fun _ => pot_at2)) (je_int)) (je_int) rfl rfl (π' := ⟨π.a, π.b, π.c + 1⟩)) <|
    jss_cons (js_asg c 3 (je_ix (o_ixL c) (fun q => rv_ixL (d := .int (primeOf (π.c + 1))) ?h5) (JL.je (jl_lst (ds := [_, _, _, _]) (ja_cons (je_int) (ja_cons (je_int) (ja_cons (je_int) (ja_cons (je_int) (ja_nil))))) (by show 4 ≤ sizeLine; decide))) (je_op op_mod (fun q => rv_mod ?h4) (je_callTy c call_int1 T.f_int (fun _ => rc_int) (ds := [_]) (ja_cons (je_ixPot c 0 (je_int) (fun _ => pot_at2)) (ja_nil))) (je_int)))) <|
    jss_cons (js_asg c 4 (je_op op_mod (fun q => rv_mod ?h9) (je_callTy c call_int1 T.f_int (fun _ => rc_int) (ds := [_]) (ja_cons (je_op op_pow (fun q => rv_pow ?h8) (je_callTy c call_int1 T.f_int (fun _ => rc_int) (ds := [_]) (ja_cons (je_op op_add (fun _ => rv_add) (je_op op_add (fun _ => rv_add) (je_ixPot c 0 (je_int) (fun _ => pot_at1)) (je_op op_mul (fun q => rv_mul ?h7) (je_op op_mul (fun q => rv_mul ?h6) (je_int) (je_ixPot c 0 (je_int) (fun _ => pot_at2))) (je_ixPot c 0 (je_int) (fun _ => pot_at2)))) (je_int)) (ja_nil))) (je_int)) (ja_nil))) (je_var c 3))) <|
    jss_one (js_ret (je_op op_mod (fun q => rv_mod ?h14) (je_callTy c call_int1 T.f_int (fun _ => rc_int) (ds := [_]) (ja_cons (je_op op_fdiv (fun q => rv_fdiv ?h13) (je_op op_mul (fun q => rv_mul ?h12) (je_var c 4) (je_op op_add (fun _ => rv_add) (je_op op_mod (fun q => rv_mod ?h10) (je_callTy c call_int1 T.f_int (fun _ => rc_int) (ds := [_]) (ja_cons (je_var c 4) (ja_nil))) (je_int)) (je_op op_mul (fun q => rv_mul ?h11) (je_int) (je_ixPot c 0 (je_int) (fun _ => pot_at2))))) (je_int)) (ja_nil))) (je_var c 1)) (fun q => ?h15)))⟩
  case h1 => -- int(pot[0]) % upto
    exact h0
  case h2 => -- pot[0] // upto
    exact ⟨h0, by omega⟩
  case h3 => -- return digit
    have e : 0 < π.a := of_decide_eq_true q.2
    exact ⟨by unfold takeV; rw [if_pos e], by unfold takeP; rw [if_pos e]⟩
  case h4 => -- int(pot[2]) % 4
    decide
  case h5 => -- item of [2147483647, 2147483629, 2147483587, 2147483579][int(pot[2]) % 4]
    exact primes_at (π.c + 1)
  case h6 => -- 172921 * pot[2]
    exact .inl ⟨by decide, by decide⟩
  case h7 => -- 172921 * pot[2] * pot[2]
    exact .inr ⟨by have := hp.c0; show -(2 ^ 64) < π.c + 1; omega, by have := hp.c1; show π.c + 1 < 2 ^ 64; omega⟩
  case h8 => -- power
    exact ⟨by decide, by decide, base_in hp (by decide)⟩
  case h9 => -- int(int(pot[1] + 172921 * pot[2] * pot[2] + 5617) ** 3) % prime
    exact (primeOf_pos _).1
  case h10 => -- int(blend) % 10007
    decide
  case h11 => -- 4675 * pot[2]
    exact .inl ⟨by decide, by decide⟩
  case h12 => -- blend * (int(blend) % 10007 + 4675 * pot[2])
    have := blend_in π
    exact .inl ⟨by show -(2 ^ 64) < blendOf π; omega, by show blendOf π < 2 ^ 64; omega⟩
  case h13 => -- blend * (int(blend) % 10007 + 4675 * pot[2]) // 307
    exact ⟨by decide, by decide⟩
  case h14 => -- int(blend * (int(blend) % 10007 + 4675 * pot[2]) // 307) % upto
    exact h0
  case h15 => -- return int(blend * (int(blend) % 10007 + 4675 * pot[2]) // 307) % upto
    have e : ¬ 0 < π.a := of_decide_eq_false q.2
    exact ⟨by unfold takeV; rw [if_neg e]; rfl, by unfold takeP; rw [if_neg e]⟩
/-! ### _law_of -/
theorem sc__law_of : FnScope ["pot", "some"] ["pot", "some"] (defScope sUlawUof) := ⟨rfl, rfl, rfl, by decide +kernel, rfl, by decide +kernel, by decide +kernel⟩
abbrev R__law_of : Says := fun π as d π' => ∃ (ds : List PyData) (x : PyData) (n : Nat), PotN 9000 π ∧ ds.length = n ∧ 0 < n ∧ n ≤ 1000 ∧ ds[(takeV π n).toNat]? = some x ∧ as = [.pot, .d (.list ds)] ∧ d = x ∧ π' = takeP π n
theorem D__law_of {G : Glb} (T : Fx G) (A : As G) : Df G 2 "_law_of" ["pot", "some"] R__law_of := by
  refine mkDf A.a__law_of sc__law_of (fun π as d π' h => by obtain ⟨ds, x, n, hp, rfl, h0, h1, hx, rfl, rfl, rfl⟩ := h; rfl) (fun _ _ _ _ _ _ us hl => match us, hl with | [_, _], _ => rfl) fun X c π as d π' h => ?_
  obtain ⟨ds, x, n, hp, rfl, h0, h1, hx, rfl, rfl, rfl⟩ := h
  refine' ⟨_, jss_one (js_ret (je_ix (o_ixL c) (fun q => rv_ixL (d := d) ?h1) (je_var c 1) (je_call c ((D__law_take T A).mono (by decide)) (ja_pot c 0 (ja_cons (je_callB c (c_lenL c) T.f_len (fun _ => rc_lenL) (ds := [_]) (ja_cons (je_var c 1) (ja_nil))) (ja_nil))) (fun q => ⟨(ds.length : Nat), hp, by omega, by omega, rfl, rfl, rfl⟩))) (fun q => ?h2))⟩
  case h1 => -- item of some[_law_take(pot, len(some))]
    exact at_nat (j := (takeV π ds.length).toNat) (by have := take_in π (n := (ds.length : Nat)) (by omega); omega) hx
  case h2 => -- return some[_law_take(pot, len(some))]
    first | exact ⟨rfl, rfl⟩ | (fail)
/-! ### _law_cells -/
theorem sc__law_cells : FnScope ["script", "limit"] ["script", "limit"] (defScope sUlawUcells) := ⟨rfl, rfl, rfl, by decide +kernel, rfl, by decide +kernel, by decide +kernel⟩
abbrev R__law_cells : Says := fun π as d π' => ∃ (ds : List PyData), as = [.d (.list ds), .d (.int 3)] ∧ d = .list (rgD 0 (cellsN ds.length)) ∧ π' = π
theorem D__law_cells {G : Glb} (T : Fx G) (A : As G) : Df G 1 "_law_cells" ["script", "limit"] R__law_cells := by
  refine mkDf A.a__law_cells sc__law_cells (fun π as d π' h => by obtain ⟨ds, rfl, rfl, rfl⟩ := h; rfl) (fun _ _ _ _ _ _ us hl => match us, hl with | [_, _], _ => rfl) fun X c π as d π' h => ?_
  obtain ⟨ds, rfl, rfl, rfl⟩ := h
  refine' ⟨_, jss_one (js_ret (JL.je (jl_listRg c (je_callB c (call_max2 c.calm) T.f_max (fun _ => rc_max2) (ds := [_, _]) (ja_cons (je_int) (ja_cons (je_callB c (call_min2 c.calm) T.f_min (fun _ => rc_min2) (ds := [_, _]) (ja_cons (je_var c 1) (ja_cons (je_callB c (c_lenL c) T.f_len (fun _ => rc_lenL) (ds := [_]) (ja_cons (je_var c 0) (ja_nil))) (ja_nil)))) (ja_nil)))) (fun q => ?h1) T.f_range T.f_list)) (fun q => ?h2))⟩
  case h1 => -- range ok
    exact cells_ok ds.length
  case h2 => -- return list(range(max(1, min(limit, len(script)))))
    first | exact ⟨rfl, rfl⟩ | (fail)
/-! ### _law_choose -/
theorem sc__law_choose : FnScope ["many", "few", "found", "at"] ["many", "few"] (defScope sUlawUchoose) := ⟨rfl, rfl, rfl, by decide +kernel, rfl, by decide +kernel, by decide +kernel⟩
abbrev R__law_choose : Says := fun π as d π' => ∃ (n m : Nat), m ≤ n ∧ n ≤ 30 ∧ as = [.d (.int n), .d (.int m)] ∧ d = .int (choose n m : Nat) ∧ π' = π
theorem D__law_choose {G : Glb} (T : Fx G) (A : As G) : Df G 1 "_law_choose" ["many", "few"] R__law_choose := by
  refine mkDf A.a__law_choose sc__law_choose (fun π as d π' h => by obtain ⟨n, m, hm, hn, rfl, rfl, rfl⟩ := h; rfl) (fun _ _ _ _ _ _ us hl => match us, hl with | [_, _], _ => rfl) fun X c π as d π' h => ?_
  obtain ⟨n, m, hm, hn, rfl, rfl, rfl⟩ := h
  refine' ⟨_, jss_cons (js_asg c 2 (je_int)) <|
    jss_cons (js_for c [3] (fun i => [.val (.int n), .val (.int m), .val (.int (choose n i : Nat)), .un]) (fun i => [.val (.int n), .val (.int m), .val (.int (choose n i : Nat)), .val (.int (i : Int))]) (fun _ => π') (fun i => i ≤ m) (ji_rng1 c (je_var c 1) (fun q => ?h1) T.f_range) (pg_nameG c 3) (fun q => ?h5) (fun _ => eg_name)
    (fun i => jss_cons (js_asg c 2 (je_op op_fdiv (fun q => rv_fdiv ?h3) (je_op op_mul (fun q => rv_mul ?h2) (je_var c 2) (je_op op_sub (fun _ => rv_sub) (je_var c 0) (je_var c 3))) (je_op op_add (fun _ => rv_add) (je_var c 3) (je_int)))) <|
    jss_nil (fun q => ?h4))
    (fun q gq => ⟨rfl, rfl⟩)) <|
    jss_one (js_ret (je_callTy c call_int1 T.f_int (fun _ => rc_int) (ds := [_]) (ja_cons (je_var c 2) (ja_nil))) (fun q => ?h6))⟩
  case h1 => -- range
    omega
  case h2 => -- found * (many - at)
    exact .inr ⟨by omega, by omega⟩
  case h3 => -- found * (many - at) // (at + 1)
    exact ⟨by omega, by omega⟩
  case h4 => -- turn
    refine ⟨?_, rfl, by omega⟩
    exact congrArg (fun z => ([_, _, .val (.int z), .un] : List Sl)) (choose_next (by omega))
  case h5 => -- start
    exact ⟨by rw [show choose n 0 = 1 by cases n <;> rfl]; rfl, rfl, Nat.zero_le _⟩
  case h6 => -- return int(found)
    first | exact ⟨rfl, rfl⟩ | (fail)
/-! ### _law_steps -/
theorem sc__law_steps : FnScope ["row", "places", "at"] ["row", "places"] (defScope sUlawUsteps) := ⟨rfl, rfl, rfl, by decide +kernel, rfl, by decide +kernel, by decide +kernel⟩
abbrev R__law_steps : Says := fun π as d π' => ∃ (a : List Nat) (ps : List Int), Row a ∧ as = [.d (st a), .d (.list (ps.map .int))] ∧ d = .tuple ((List.range a.length).map fun (i : Nat) => if (ps.map PyData.int).any (fun e => eqD e (.int (i : Int))) = true then .str "keep" else .str "out") ∧ π' = π
theorem D__law_steps {G : Glb} (T : Fx G) (A : As G) : Df G 1 "_law_steps" ["row", "places"] R__law_steps := by
  refine mkDf A.a__law_steps sc__law_steps (fun π as d π' h => by obtain ⟨a, ps, ha, rfl, rfl, rfl⟩ := h; rfl) (fun _ _ _ _ _ _ us hl => match us, hl with | [_, _], _ => rfl) fun X c π as d π' h => ?_
  obtain ⟨a, ps, ha, rfl, rfl, rfl⟩ := h
  refine' ⟨_, jss_one (js_ret (je_callTy c (o_tupOf c) T.f_tuple (fun _ => rc_tupL) (ds := [_]) (ja_cons (JLc.je c (jlc_map (j := 2) c (ji_rng1 c (je_callB c call_len_str T.f_len (fun q => rc_lenS ?h1) (ds := [_]) (ja_cons (je_var c 0) (ja_nil))) (fun q => ?h2) T.f_range) (fun q => ?h5) (fun Y cY i => je_if' (jt_cmp (o_in cY) (fun q => rv_inL ?h3 ?h4) (je_var cY 2) (je_var cY 1)) (je_str) (je_str)))) (ja_nil))) (fun q => ?h6))⟩
  case h1 => -- length
    first | exact ha.line | exact hb.line | exact hr.line
  case h2 => -- range
    have := ha.1; omega
  case h3 => -- scalar
    rfl
  case h4 => -- scalars
    exact ints_scal ps
  case h5 => -- few items
    have := ha.1; omega
  case h6 => -- return tuple(['keep' if at in places else 'out' for at in range(len(row))])
    first | exact ⟨rfl, rfl⟩ | (fail)
end K12

/-! ## K12Law2 -/
set_option Elab.async false
set_option linter.all false
set_option maxRecDepth 100000
set_option maxHeartbeats 2000000
/-! k12: rows, lots and embeddings, turn by turn -/
namespace K12
open PySem PySem.Spec PyProof.Rows L2 JD

theorem row_pot {π : Pot} {l : List Nat} {lo hi : Int} {i : Nat} (hp : PotN 8000 π) (hi' : i < (lo + takeV π (hi - lo + 1)).toNat) (h0 : 0 ≤ lo) (h1 : lo ≤ hi) (h2 : hi ≤ 100) : PotN 9000 (rowS l i (takeP π (hi - lo + 1))) := by
  have := take_in π (n := hi - lo + 1) (by omega)
  exact (rowS_N l (hp.take _) i).mono (by omega)
theorem row_item {l : List Nat} (hl : l ≠ []) {π : Pot} {i : Nat} : (l.map fun c => PyData.str (S [c]))[(takeV (rowS l i π) l.length).toNat]? = some (.str (S (rowAt l π i))) := by
  have h0 : 0 < l.length := List.length_pos_iff.mpr hl
  have := take_in (rowS l i π) (n := (l.length : Nat)) (by omega)
  have hj : (takeV (rowS l i π) l.length).toNat < l.length := by omega
  rw [List.getElem?_map, List.getElem?_eq_getElem hj]
  unfold rowAt
  rw [List.getD_eq_getElem?_getD, List.getElem?_eq_getElem hj]; rfl
theorem some_pot {xs : List Int} {π : Pot} {k i : Nat} (hp : PotN 8000 π) (hx : xs.length ≤ 100) (hi : i < ((k : Int)).toNat) (hk : k ≤ xs.length) : PotN 9000 (someS i (xs, [], π)).2.2 := (someS_ok xs π hp i (by omega)).2.2.2.mono (by omega)
theorem some_pos {xs : List Int} {π : Pot} {k i : Nat} (hp : PotN 8000 π) (hi : i < ((k : Int)).toNat) (hk : k ≤ xs.length) : (0 : Int) < ((someS i (xs, [], π)).1.length : Nat) := by
  have := (someS_ok xs π hp i (by omega)).1; omega
theorem some_le {xs : List Int} {π : Pot} {k i : Nat} (hp : PotN 8000 π) (hx : xs.length ≤ 100) (hi : i < ((k : Int)).toNat) (hk : k ≤ xs.length) : (((someS i (xs, [], π)).1.length : Nat) : Int) ≤ 1000000 := by
  have := (someS_ok xs π hp i (by omega)).1; omega
/-- embeddings of the first letters in the first letters -/
def Em (a b : List Nat) (i j : Nat) : Nat := emb (a.take i).reverse (b.take j).reverse
/-- a line of them, t places from the end already one letter on -/
def Ez (a b : List Nat) (i t j : Nat) : Nat := if b.length < j + t then Em a b (i + 1) j else Em a b i j
theorem emb_nil (a : List Nat) : emb a [] = 1 := by cases a <;> rfl
theorem Em_0 (a b : List Nat) (i : Nat) : Em a b i 0 = 1 := by unfold Em; rw [List.take_zero]; exact emb_nil _
theorem Em_start (a b : List Nat) {j : Nat} (hj : j < b.length) : Em a b 0 (j + 1) = 0 := by unfold Em; rw [take_rev hj]; rfl
theorem Em_succ {a b : List Nat} {i j : Nat} (hi : i < a.length) (hj : j < b.length) : Em a b (i + 1) (j + 1) = Em a b i (j + 1) + (if b.getD j 0 = a.getD i 0 then Em a b i j else 0) := by
  unfold Em; rw [take_rev hi, take_rev hj]; rfl
theorem Em_end (a b : List Nat) : Em a b a.length b.length = emb a b := by unfold Em; rw [List.take_length, List.take_length, emb_rev]
theorem Ez_0 {a b : List Nat} {i j : Nat} (hj : j ≤ b.length) : Ez a b i 0 j = Em a b i j := by unfold Ez; rw [if_neg (by omega)]
theorem Ez_end {a b : List Nat} {i j : Nat} : Ez a b i b.length j = Em a b (i + 1) j := by
  unfold Ez
  cases j with
  | zero => rw [if_neg (by omega), Em_0, Em_0]
  | succ j => rw [if_pos (by omega)]
theorem ways_start (a b : List Nat) : [PyData.int 1] ++ (List.replicate ((b.length : Nat) : Int).toNat [PyData.int 0]).flatten = (List.range (b.length + 1)).map fun j => .int (Em a b 0 j : Nat) := by
  rw [List.range_succ_eq_map, List.map_cons, List.map_map, Em_0]
  show PyData.int 1 :: _ = PyData.int 1 :: _
  congr 1
  have h : ∀ n, (List.replicate n [PyData.int 0]).flatten = List.replicate n (PyData.int 0) := fun n => by
    induction n with
    | zero => rfl
    | succ n ih => rw [List.replicate_succ, List.flatten_cons, ih]; rfl
  rw [Int.toNat_natCast, h]
  show List.replicate b.length (PyData.int 0) = _
  refine List.ext_getElem? fun j => ?_
  by_cases c : j < b.length
  · rw [List.getElem?_replicate, if_pos c, List.getElem?_map, List.getElem?_range c]
    show some (PyData.int 0) = some (.int (Em a b 0 (j + 1) : Nat))
    rw [Em_start a b c]; rfl
  · rw [List.getElem?_replicate, if_neg c, List.getElem?_map, List.getElem?_eq_none (by rw [List.length_range]; omega)]; rfl
theorem range_set {n j : Nat} {f : Nat → PyData} {x : PyData} (g : Nat → PyData) (hx : g j = x) (h : ∀ r, r < n → r ≠ j → f r = g r) : ((List.range n).map f).set j x = (List.range n).map g := by
  refine List.ext_getElem? fun r => ?_
  by_cases c : j = r
  · subst c
    by_cases cn : j < n
    · rw [List.getElem?_set_self (by rw [List.length_map, List.length_range]; exact cn), List.getElem?_map, List.getElem?_range cn, ← hx]; rfl
    · rw [List.getElem?_eq_none (by rw [List.length_set, List.length_map, List.length_range]; omega), List.getElem?_eq_none (by rw [List.length_map, List.length_range]; omega)]
  · rw [List.getElem?_set_ne c, List.getElem?_map, List.getElem?_map]
    by_cases cn : r < n
    · rw [List.getElem?_range cn]
      show some (f r) = some (g r)
      rw [h r cn (Ne.symm c)]
    · rw [List.getElem?_eq_none (by rw [List.length_range]; omega)]; rfl
theorem ways_turn {a b : List Nat} {i t : Nat} (hi : i < a.length) (ht : t < b.length) : ((List.range (b.length + 1)).map fun j => PyData.int (Ez a b i t j : Nat)).set (b.length - t) (.int ((Ez a b i t (b.length - t) : Nat) + (if decide ([b.getD (b.length - t - 1) 0] = [a.getD i 0]) = true then ((Ez a b i t (b.length - t - 1) : Nat) : Int) else 0))) =
    (List.range (b.length + 1)).map fun j => .int (Ez a b i (t + 1) j : Nat) := by
  refine range_set _ ?_ fun r hr hne => ?_
  · show PyData.int _ = PyData.int _
    obtain ⟨j, hj⟩ : ∃ j, b.length - t = j + 1 := ⟨b.length - t - 1, by omega⟩
    rw [hj, Nat.add_sub_cancel]
    have e1 : Ez a b i (t + 1) (j + 1) = Em a b (i + 1) (j + 1) := by unfold Ez; rw [if_pos (by omega)]
    have e2 : Ez a b i t (j + 1) = Em a b i (j + 1) := by unfold Ez; rw [if_neg (by omega)]
    have e3 : Ez a b i t j = Em a b i j := by unfold Ez; rw [if_neg (by omega)]
    rw [e1, e2, e3, Em_succ hi (show j < b.length by omega)]
    by_cases c : b.getD j 0 = a.getD i 0
    · rw [if_pos c, if_pos (by rw [c]; simp)]; congr 1
    · rw [if_neg c, if_neg (by simpa using c)]; congr 1
  · show PyData.int _ = PyData.int _
    unfold Ez
    by_cases c : b.length < r + t
    · rw [if_pos c, if_pos (by omega)]
    · rw [if_neg c, if_neg (by omega)]
theorem some_turn : ∀ (l : List Int) (j : Nat), (l.map PyData.int).eraseIdx j = (l.eraseIdx j).map .int
  | [], _ => rfl
  | _ :: _, 0 => rfl
  | x :: l, j + 1 => by
    show PyData.int x :: (l.map PyData.int).eraseIdx j = PyData.int x :: (l.eraseIdx j).map .int
    rw [some_turn l j]
theorem cg2 {α β γ : Type} (f : α → β → γ) {x x' : α} {y y' : β} (h1 : x = x') (h2 : y = y') : f x y = f x' y' := by rw [h1, h2]
theorem ixN_of {n j : Nat} (hj : j < n) : ixN n (j : Int) = some j := by
  unfold ixN
  rw [if_pos (by omega), if_pos (by omega)]
  simp
/-! ### the pot as the law makes it -/
def cellOf (xs : List Int) (k : Nat) : Int := if decide ((k : Int) < (xs.length : Nat)) = true then xs.getD k 0 else (cutN xs none (some 1)).sum % 1000003 + 5393 * (k : Int) + 14171
def absI (i : Int) : Int := if i < 0 then -i else i
def potOf (xs : List Int) (k : Nat) : Pot :=
  ⟨absI (cellOf xs k) % ((10 : Int) ^ (60 : Int).toNat) ^ (5 : Int).toNat * (if decide ((10 : Int) ^ (18 : Int).toNat ≤ absI (cellOf xs k)) = true then 1 else 0), (cellOf xs k % 2305843009213693951 * 113561 + 17647 * (k : Int) * (k : Int) + 5213) % 2305843009213693921, 0⟩
theorem potOf_N (xs : List Int) (k : Nat) : PotN 0 (potOf xs k) := by
  refine ⟨Int.emod_nonneg _ (by decide), ?_, Int.le_refl _, Int.le_refl _⟩
  have := Int.emod_lt_of_pos (cellOf xs k % 2305843009213693951 * 113561 + 17647 * (k : Int) * (k : Int) + 5213) (show (0 : Int) < 2305843009213693921 by decide)
  show (cellOf xs k % 2305843009213693951 * 113561 + 17647 * (k : Int) * (k : Int) + 5213) % 2305843009213693921 < 2 ^ 61
  omega
theorem at_ints {xs : List Int} {k : Nat} (h : k < xs.length) : atI (xs.map PyData.int) (k : Int) = some (.int (xs.getD k 0)) := at_nat rfl (by rw [List.getElem?_map, List.getD_eq_getElem?_getD, List.getElem?_eq_getElem h]; rfl)
theorem bit_in {P : Prop} [Decidable P] : -(2 ^ 64) < (if P then (1 : Int) else 0) ∧ (if P then (1 : Int) else 0) < 2 ^ 64 := by split <;> decide
end K12

/-! ## K12W6 -/
set_option Elab.async false
set_option linter.all false
set_option maxRecDepth 100000
set_option maxHeartbeats 4000000
namespace K12
open PySem PySem.Spec PyProof.Rows L2 JD

/-! ### _law_row -/
theorem sc__law_row : FnScope ["pot", "lot", "low", "high", "lap"] ["pot", "lot", "low", "high"] (defScope sUlawUrow) := ⟨rfl, rfl, rfl, by decide +kernel, rfl, by decide +kernel, by decide +kernel⟩
abbrev R__law_row : Says := fun π as d π' => ∃ (l : List Nat) (lo hi : Int), PotN 8000 π ∧ l ≠ [] ∧ l.length ≤ 100 ∧ 0 ≤ lo ∧ lo ≤ hi ∧ hi ≤ 100 ∧ as = [.pot, .d (st l), .d (.int lo), .d (.int hi)] ∧ d = st (rowV π l lo hi) ∧ π' = rowP π l lo hi
theorem D__law_row {G : Glb} (T : Fx G) (A : As G) : Df G 3 "_law_row" ["pot", "lot", "low", "high"] R__law_row := by
  refine mkDf A.a__law_row sc__law_row (fun π as d π' h => by obtain ⟨l, lo, hi, hp, hl, hl2, h0, h1, h2, rfl, rfl, rfl⟩ := h; rfl) (fun _ _ _ _ _ _ us hl => match us, hl with | [_, _, _, _], _ => rfl) fun X c π as d π' h => ?_
  obtain ⟨l, lo, hi, hp, hl, hl2, h0, h1, h2, rfl, rfl, rfl⟩ := h
  refine' ⟨_, jss_one (js_ret (je_joinF (JLc.je c (jlc_pot (j := 4) (πs := (fun i => rowS l i (takeP π (hi - lo + 1)))) c (ji_rng1 c (je_op op_add (fun _ => rv_add) (je_var c 2) (je_call c ((D__law_take T A).mono (by decide)) (ja_pot c 0 (ja_cons (je_op op_add (fun _ => rv_add) (je_op op_sub (fun _ => rv_sub) (je_var c 3) (je_var c 2)) (je_int)) (ja_nil))) (fun q => ⟨hi - lo + 1, hp.mono (by omega), by omega, by omega, rfl, rfl, rfl⟩))) (fun q => ?h1) T.f_range) (fun q => ?h3) rfl (fun Y cY i => je_call cY ((D__law_of T A).mono (by decide)) (ja_pot cY 0 (ja_cons (JL.je (jl_callTy cY (call_listS cY.calm) T.f_list (fun q => rc_listS ?h2) (ds := [_]) (ja_cons (je_var cY 1) (ja_nil)))) (ja_nil))) (fun q => ⟨_, .str (S (rowAt l (takeP π (hi - lo + 1)) i)), l.length, row_pot hp q.2 h0 h1 h2, List.length_map .., List.length_pos_iff.mpr hl, by omega, row_item hl, rfl, rfl, rfl⟩)))) (fun q => ?h4) c) (fun q => ?h5))⟩
  case h1 => -- range
    have := take_in π (n := hi - lo + 1) (by omega); omega
  case h2 => -- length
    rw [sizeLine_eq]; omega
  case h3 => -- few items
    have := take_in π (n := hi - lo + 1) (by omega); omega
  case h4 => -- join
    rw [ones_sum _ fun _ => rfl]; have := take_in π (n := hi - lo + 1) (by omega); omega
  case h5 => -- return ''.join([_law_of(pot, list(lot)) for lap in range(low + _law_take(pot, high - low + 1))])
    first | exact ⟨rfl, rfl⟩ | (fail)
/-! ### _law_some -/
theorem sc__law_some : FnScope ["pot", "things", "number", "left", "found", "lap"] ["pot", "things", "number"] (defScope sUlawUsome) := ⟨rfl, rfl, rfl, by decide +kernel, rfl, by decide +kernel, by decide +kernel⟩
abbrev R__law_some : Says := fun π as d π' => ∃ (xs : List Int) (k : Nat), PotN 8000 π ∧ xs.length ≤ 100 ∧ k ≤ xs.length ∧ as = [.pot, .d (.list (xs.map .int)), .d (.int k)] ∧ d = .list ((someS k (xs, [], π)).2.1.map .int) ∧ π' = (someS k (xs, [], π)).2.2
theorem D__law_some {G : Glb} (T : Fx G) (A : As G) : Df G 2 "_law_some" ["pot", "things", "number"] R__law_some := by
  refine mkDf A.a__law_some sc__law_some (fun π as d π' h => by obtain ⟨xs, k, hp, hx, hk, rfl, rfl, rfl⟩ := h; rfl) (fun _ _ _ _ _ _ us hl => match us, hl with | [_, _, _], _ => rfl) fun X c π as d π' h => ?_
  obtain ⟨xs, k, hp, hx, hk, rfl, rfl, rfl⟩ := h
  refine' ⟨_, jss_cons (js_par_ll c 3 4 (jl_callTy c (o_listOf c) T.f_list (fun _ => rc_listL) (ds := [_]) (ja_cons (je_var c 1) (ja_nil))) (jl_lst (ds := []) (ja_nil) (by show 0 ≤ sizeLine; decide)) (fun env h => by unfold swappedStores Env.blockKind Env.kindOf; rw [h]; rfl)) <|
    jss_cons (js_for c [5] (fun i => [.pot, .val (.list (xs.map .int)), .val (.int (k : Nat)), .own ((someS i (xs, [], π)).1.map .int), .own ((someS i (xs, [], π)).2.1.map .int), .un]) (fun i => [.pot, .val (.list (xs.map .int)), .val (.int (k : Nat)), .own ((someS i (xs, [], π)).1.map .int), .own ((someS i (xs, [], π)).2.1.map .int), .val (.int (i : Int))]) (fun i => (someS i (xs, [], π)).2.2) (fun i => True) (ji_rng1 c (je_var c 2) (fun q => ?h1) T.f_range) (pg_nameG c 5) (fun q => ?h6) (fun _ => eg_name)
    (fun i => jss_cons (js_appendPop (j := (takeV (someS i (xs, [], π)).2.2 (someS i (xs, [], π)).1.length).toNat) (d := .int ((someS i (xs, [], π)).1.getD (takeV (someS i (xs, [], π)).2.2 (someS i (xs, [], π)).1.length).toNat 0)) c 4 3 (je_call c ((D__law_take T A).mono (by decide)) (ja_pot c 0 (ja_cons (je_lenOwn c 3 T.f_len) (ja_nil))) (fun q => ⟨((someS i (xs, [], π)).1.length : Nat), some_pot hp hx q.2.1 hk, some_pos hp q.2.1 hk, some_le hp hx q.2.1 hk, by rw [List.length_map], rfl, rfl⟩)) (fun q => ?h2) (fun q => ?h3) (fun q => ?h4)) <|
    jss_nil (fun q => ?h5))
    (fun q gq => ⟨rfl, rfl⟩)) <|
    js_freeze 4 rfl <| jss_one (js_ret (je_var c 4) (fun q => ?h7))⟩
  case h1 => -- range
    omega
  case h2 => -- small
    have := take_in (someS i (xs, [], π)).2.2 (some_pos hp q.2.1 hk)
    have := some_le hp hx q.2.1 hk
    omega
  case h3 => -- item
    have := take_in (someS i (xs, [], π)).2.2 (some_pos hp q.2.1 hk)
    have hj : (takeV (someS i (xs, [], π)).2.2 (someS i (xs, [], π)).1.length).toNat < (someS i (xs, [], π)).1.length := by omega
    refine ⟨by rw [List.length_map]; exact seqIndex_of this.1 (by omega), ?_⟩
    rw [List.getElem?_map, List.getD_eq_getElem?_getD, List.getElem?_eq_getElem hj]; rfl
  case h4 => -- size
    rw [List.length_map, (someS_ok xs π hp i (by omega)).2.1, sizeLine_eq]; omega
  case h5 => -- turn
    refine ⟨?_, rfl, trivial⟩
    refine cg2 (fun y z => ([_, _, _, Sl.own y, Sl.own z, .un] : List Sl)) (some_turn _ _) ?_
    exact (List.map_append (f := PyData.int) (l₁ := (someS i (xs, [], π)).2.1) (l₂ := [_])).symm
  case h6 => -- start
    exact ⟨rfl, rfl, trivial⟩
  case h7 => -- return found
    first | exact ⟨rfl, rfl⟩ | (fail)
/-! ### _law_found -/
theorem sc__law_found : FnScope ["row", "other", "ways", "sign", "at"] ["row", "other"] (defScope sUlawUfound) := ⟨rfl, rfl, rfl, by decide +kernel, rfl, by decide +kernel, by decide +kernel⟩
abbrev R__law_found : Says := fun π as d π' => ∃ (a b : List Nat), a.length ≤ 100 ∧ b.length ≤ 100 ∧ as = [.d (st a), .d (st b)] ∧ d = .int (emb a b : Nat) ∧ π' = π
theorem D__law_found {G : Glb} (T : Fx G) (A : As G) : Df G 1 "_law_found" ["row", "other"] R__law_found := by
  refine mkDf A.a__law_found sc__law_found (fun π as d π' h => by obtain ⟨a, b, ha, hb, rfl, rfl, rfl⟩ := h; rfl) (fun _ _ _ _ _ _ us hl => match us, hl with | [_, _], _ => rfl) fun X c π as d π' h => ?_
  obtain ⟨a, b, ha, hb, rfl, rfl, rfl⟩ := h
  refine' ⟨_, jss_cons (js_asgL c 2 (jl_cat (jl_lst (ds := [_]) (ja_cons (je_int) (ja_nil)) (by show 1 ≤ sizeLine; decide)) (jl_rep (jl_lst (ds := [_]) (ja_cons (je_int) (ja_nil)) (by show 1 ≤ sizeLine; decide)) (je_callB c call_len_str T.f_len (fun q => rc_lenS ?h1) (ds := [_]) (ja_cons (je_var c 1) (ja_nil))) (fun q => ?h2)) (fun q => ?h3))) <|
    jss_cons (js_for c [3, 4] (fun i => [.val (st a), .val (st b), .own ((List.range (b.length + 1)).map fun j => .int (Em a b i j : Nat)), .un, .un]) (fun i => [.val (st a), .val (st b), .own ((List.range (b.length + 1)).map fun j => .int (Em a b i j : Nat)), .val (st [a.getD i 0]), .un]) (fun _ => π') (fun i => i ≤ a.length) (ji_strS (je_var c 0)) (pg_nameG c 3) (fun q => ?h17) (fun _ => eg_name)
    (fun i => jss_cons (js_for c [4] (fun t => [.val (st a), .val (st b), .own ((List.range (b.length + 1)).map fun j => .int (Ez a b i t j : Nat)), .val (st [a.getD i 0]), .un]) (fun t => [.val (st a), .val (st b), .own ((List.range (b.length + 1)).map fun j => .int (Ez a b i t j : Nat)), .val (st [a.getD i 0]), .val (.int ((b.length : Nat) - (t : Int)))]) (fun _ => π') (fun t => t ≤ b.length) (ji_rngD c (je_callB c call_len_str T.f_len (fun q => rc_lenS ?h4) (ds := [_]) (ja_cons (je_var c 1) (ja_nil))) (je_int) (je_un un_neg (fun _ => ru_neg) (je_int)) (fun q => ?h5) T.f_range) (pg_nameG c 4) (fun q => ?h15) (fun _ => eg_name)
    (fun t => jss_cons (js_setOwn (j := b.length - t) c 2 (je_op op_add (fun _ => rv_add) (je_ixOwn c 2 (je_var c 4) (fun q => own_at (i := b.length - t) ?h6 ?h7)) (je_ifI (jt_cmp op_eq (fun q => rv_eqC) (je_ix ix_str (fun q => rv_ixSN (i := b.length - t - 1) ?h8 ?h9 ?h10) (je_var c 1) (je_op op_sub (fun _ => rv_sub) (je_var c 4) (je_int))) (je_var c 3)) (je_ixOwn c 2 (je_op op_sub (fun _ => rv_sub) (je_var c 4) (je_int)) (fun q => own_at (i := b.length - t - 1) ?h11 ?h12)) (je_int))) (je_var c 4) (fun q => ?h13)) <|
    jss_nil (fun q => ?h14))
    (fun q gq => ⟨rfl, rfl⟩)) <|
    jss_nil (fun q => ?h16))
    (fun q gq => ⟨rfl, rfl⟩)) <|
    jss_one (js_ret (je_callTy c call_int1 T.f_int (fun _ => rc_int) (ds := [_]) (ja_cons (je_ixOwn c 2 (je_un un_neg (fun _ => ru_neg) (je_int)) (fun q => own_last)) (ja_nil))) (fun q => ?h18))⟩
  case h1 => -- length
    rw [sizeLine_eq]; omega
  case h2 => -- sizes of [0] * len(other)
    refine ⟨by omega, ?_⟩; show 1 * b.length ≤ _; rw [sizeLine_eq]; omega
  case h3 => -- sizes of [1] + [0] * len(other)
    rw [← List.length_append, ways_start a b, List.length_map, List.length_range, sizeLine_eq]; omega
  case h4 => -- length
    rw [sizeLine_eq]; omega
  case h5 => -- range
    omega
  case h6 => -- is at
    first | rfl | omega | (simp only [decide_eq_true_eq, Bool.and_eq_true, Bool.or_eq_true, Bool.not_eq_false', Bool.not_eq_true', decide_eq_false_iff_not] at q; omega) | (fail)
  case h7 => -- below, ways[at]
    first | omega | (simp only [decide_eq_true_eq, Bool.and_eq_true, Bool.or_eq_true, Bool.not_eq_false', Bool.not_eq_true', decide_eq_false_iff_not] at q; omega) | (fail)
  case h8 => -- length
    rw [sizeLine_eq]; omega
  case h9 => -- is at - 1
    first | rfl | omega | (simp only [decide_eq_true_eq, Bool.and_eq_true, Bool.or_eq_true, Bool.not_eq_false', Bool.not_eq_true', decide_eq_false_iff_not] at q; omega) | (fail)
  case h10 => -- below, other[at - 1]
    first | omega | (simp only [decide_eq_true_eq, Bool.and_eq_true, Bool.or_eq_true, Bool.not_eq_false', Bool.not_eq_true', decide_eq_false_iff_not] at q; omega) | (fail)
  case h11 => -- is at - 1
    first | rfl | omega | (simp only [decide_eq_true_eq, Bool.and_eq_true, Bool.or_eq_true, Bool.not_eq_false', Bool.not_eq_true', decide_eq_false_iff_not] at q; omega) | (fail)
  case h12 => -- below, ways[at - 1]
    first | omega | (simp only [decide_eq_true_eq, Bool.and_eq_true, Bool.or_eq_true, Bool.not_eq_false', Bool.not_eq_true', decide_eq_false_iff_not] at q; omega) | (fail)
  case h13 => -- place in ways
    rw [List.length_map, List.length_range, show ((b.length : Nat) : Int) - (t : Int) = ((b.length - t : Nat) : Int) by omega]; exact ixN_of (by omega)
  case h14 => -- turn
    exact ⟨congrArg (fun z => ([_, _, Sl.own z, _, .un] : List Sl)) (ways_turn q.1.2.1 (by omega)), rfl, by omega⟩
  case h15 => -- start
    exact ⟨congrArg (fun z => ([_, _, Sl.own z, _, .un] : List Sl)) (List.map_congr_left fun j hj => by rw [Ez_0 (by have := List.mem_range.mp hj; omega)]), rfl, Nat.zero_le _⟩
  case h16 => -- turn
    exact ⟨congrArg (fun z => ([_, _, Sl.own z, .un, .un] : List Sl)) (List.map_congr_left fun j _ => by rw [show ((b.length : Nat) - 0 : Int).toNat = b.length by omega, Ez_end]), rfl, q.2.1⟩
  case h17 => -- start
    exact ⟨congrArg (fun z => ([_, _, Sl.own z, .un, .un] : List Sl)) (ways_start a b), rfl, Nat.zero_le _⟩
  case h18 => -- return int(ways[-1])
    exact ⟨by rw [Em_end], rfl⟩
end K12

/-! ## K12Law3 -/
set_option Elab.async false
set_option linter.all false
set_option maxRecDepth 100000
set_option maxHeartbeats 2000000
/-! k12: the paper told is shown; other papers are not -/
namespace K12
open PySem PySem.Spec PyProof.Rows L2 JD

theorem dl_same {x y : Nat} (h : x = y) : dl x y = 0 := by unfold dl; rw [if_pos h]
theorem dl_else {x y : Nat} (h : ¬ x = y) : dl x y = 1 := by unfold dl; rw [if_neg h]
/-- the last step of a way -/
theorem SB_step (a b : List Nat) {i j : Nat} (hi : i ≤ a.length) (hj : j ≤ b.length) (hn : 0 < i + j) : ∃ (s : Step) (i' j' : Nat), i' ≤ a.length ∧ j' ≤ b.length ∧ i' + j' < i + j ∧ SB a b i j = s :: SB a b i' j' ∧ may a b i' j' s = true ∧ mv (i', j', D a b i' j') s = (i, j, D a b i j) := by
  by_cases c : 0 < i ∧ 0 < j ∧ D a b (i - 1) (j - 1) + dl (a.getD (i - 1) 0) (b.getD (j - 1) 0) = D a b i j
  · obtain ⟨c1, c2, c3⟩ := c
    obtain ⟨i, rfl⟩ : ∃ i', i = i' + 1 := ⟨i - 1, by omega⟩
    obtain ⟨j, rfl⟩ : ∃ j', j = j' + 1 := ⟨j - 1, by omega⟩
    rw [Nat.add_sub_cancel, Nat.add_sub_cancel] at c3
    refine ⟨_, i, j, by omega, by omega, by omega, SB_diag (by omega) (by omega) c3, ?_, ?_⟩
    · by_cases e : a.getD i 0 = b.getD j 0
      · rw [if_pos e]; unfold may; rw [decide_eq_true (show i < a.length by omega), decide_eq_true (show j < b.length by omega), decide_eq_true e]; rfl
      · rw [if_neg e]; unfold may; rw [decide_eq_true (show i < a.length by omega), decide_eq_true (show j < b.length by omega), decide_eq_false e]; rfl
    · by_cases e : a.getD i 0 = b.getD j 0
      · rw [if_pos e]; rw [dl_same e] at c3; rw [← c3]; rfl
      · rw [if_neg e]; rw [dl_else e] at c3; rw [← c3]; rfl
  · by_cases c2 : 0 < i ∧ D a b (i - 1) j + 1 = D a b i j
    · obtain ⟨d1, d2⟩ := c2
      obtain ⟨i, rfl⟩ : ∃ i', i = i' + 1 := ⟨i - 1, by omega⟩
      rw [Nat.add_sub_cancel] at d2 c
      refine ⟨.out, i, j, by omega, by omega, by omega, SB_out (by omega) hj (by
        cases j with
        | zero => exact .inl rfl
        | succ j => exact .inr fun z => c ⟨by omega, by omega, z⟩) d2, decide_eq_true (by omega), ?_⟩
      rw [← d2]; rfl
    · have hp := must_put hi hj (by omega) (by
        by_cases z : i = 0
        · exact .inl z
        · exact .inr fun y => c2 ⟨by omega, y⟩)
      obtain ⟨j, rfl⟩ : ∃ j', j = j' + 1 := ⟨j - 1, by omega⟩
      rw [Nat.add_sub_cancel] at c
      have d2 : D a b i j + 1 = D a b i (j + 1) := by
        cases i with
        | zero => rw [D_0 a b (by omega), D_0 a b hj]
        | succ i =>
          have e := D_succ (a := a) (b := b) (i := i) (j := j) (by omega) (by omega)
          rw [Nat.add_sub_cancel] at c
          have n1 : ¬ (D a b i j + dl (a.getD i 0) (b.getD j 0) = D a b (i + 1) (j + 1)) := fun z => c ⟨by omega, by omega, z⟩
          have n2 : ¬ (D a b i (j + 1) + 1 = D a b (i + 1) (j + 1)) := fun z => c2 ⟨by omega, z⟩
          omega
      refine ⟨.put, i, j, hi, by omega, by omega, SB_put hi (by omega) (by
        by_cases z : i = 0
        · exact .inl z
        · exact .inr fun y => c ⟨by omega, by omega, y⟩) (by
        by_cases z : i = 0
        · exact .inl z
        · exact .inr fun y => c2 ⟨by omega, y⟩), decide_eq_true (by omega), ?_⟩
      rw [← d2]; rfl
theorem led_way (a b : List Nat) : ∀ (k i j : Nat), i + j ≤ k → i ≤ a.length → j ≤ b.length → ∀ rest, led a b ((SB a b i j).reverse ++ rest) (0, 0, 0) = led a b rest (i, j, D a b i j) := by
  intro k
  induction k with
  | zero =>
    intro i j h hi hj rest
    have e1 : i = 0 := by omega
    have e2 : j = 0 := by omega
    subst e1 e2
    rw [SB_00, D_0 a b (Nat.zero_le _)]; rfl
  | succ k ih =>
    intro i j h hi hj rest
    by_cases hn : 0 < i + j
    · obtain ⟨s, i', j', h1, h2, h3, h4, h5, h6⟩ := SB_step a b hi hj hn
      rw [h4, List.reverse_cons, List.append_assoc, ih i' j' (by omega) h1 h2]
      show led a b (s :: rest) _ = _
      rw [led, h5, if_pos rfl, h6]
    · exact ih i j (by omega) hi hj rest
theorem led_stp (a b : List Nat) : led a b (stp a b) (0, 0, 0) = (true, D a b a.length b.length) := by
  have := led_way a b _ a.length b.length (Nat.le_refl _) (Nat.le_refl _) (Nat.le_refl _) []
  rw [List.append_nil] at this
  unfold stp
  rw [this, led]
  simp
/-- steps that are not kept -/
theorem led_count (a b : List Nat) : ∀ (ss : List Step) (p : Nat × Nat × Nat), (led a b ss p).1 = true → (led a b ss p).2 = p.2.2 + (ss.filter fun s => !decide (s = .keep)).length
  | [], p, _ => rfl
  | s :: ss, p, h => by
    rw [led] at h ⊢
    by_cases c : may a b p.1 p.2.1 s = true
    · rw [if_pos c] at h ⊢
      rw [led_count a b ss _ h, List.filter_cons]
      show p.2.2 + (if s = .keep then 0 else 1) + _ = _
      by_cases e : s = .keep
      · rw [if_pos e, decide_eq_true e, if_neg (by decide)]; omega
      · rw [if_neg e, decide_eq_false e, if_pos (by decide), List.length_cons]; omega
    · rw [if_neg c] at h; cases h
theorem stp_count (a b : List Nat) : ((stp a b).filter fun s => !decide (s = .keep)).length = D a b a.length b.length := by
  have := led_count a b (stp a b) (0, 0, 0) (by rw [led_stp])
  rw [led_stp] at this
  have e : (0 : Nat) + ((stp a b).filter fun s => !decide (s = .keep)).length = D a b a.length b.length := this.symm
  omega
theorem SB_len (a b : List Nat) : ∀ (k i j : Nat), i + j ≤ k → i ≤ a.length → j ≤ b.length → (SB a b i j).length ≤ i + j := by
  intro k
  induction k with
  | zero =>
    intro i j h hi hj
    have e1 : i = 0 := by omega
    have e2 : j = 0 := by omega
    subst e1 e2
    rw [SB_00]; exact Nat.le_refl _
  | succ k ih =>
    intro i j h hi hj
    by_cases hn : 0 < i + j
    · obtain ⟨s, i', j', h1, h2, h3, h4, h5, h6⟩ := SB_step a b hi hj hn
      rw [h4, List.length_cons]
      have := ih i' j' (by omega) h1 h2
      omega
    · exact ih i j (by omega) hi hj
theorem stp_len (a b : List Nat) : (stp a b).length ≤ a.length + b.length := by
  unfold stp
  rw [List.length_reverse]
  exact SB_len a b _ _ _ (Nat.le_refl _) (Nat.le_refl _) (Nat.le_refl _)
theorem D_step {a b : List Nat} {i j : Nat} (hi : i ≤ a.length) (hj : j ≤ b.length) : (0 < i → D a b i j ≤ D a b (i - 1) j + 1) ∧ (0 < j → D a b i j ≤ D a b i (j - 1) + 1) ∧ (0 < i → 0 < j → D a b i j ≤ D a b (i - 1) (j - 1) + dl (a.getD (i - 1) 0) (b.getD (j - 1) 0)) := by
  cases i with
  | zero =>
    refine ⟨fun h => absurd h (by omega), fun h => ?_, fun h => absurd h (by omega)⟩
    rw [D_0 a b hj, D_0 a b (by omega)]; omega
  | succ i =>
    cases j with
    | zero =>
      refine ⟨fun h => ?_, fun h => absurd h (by omega), fun _ h => absurd h (by omega)⟩
      rw [Nat.add_sub_cancel, D_n0 a b hi, D_n0 a b (by omega)]; omega
    | succ j =>
      have e := D_succ (a := a) (b := b) (i := i) (j := j) (by omega) (by omega)
      simp only [Nat.add_sub_cancel]
      exact ⟨fun _ => by omega, fun _ => by omega, fun _ _ => by omega⟩
theorem priced_D (a b : List Nat) : priced a b (fun i j => (D a b i j : Nat)) = true := by
  refine priced_yes fun i hi j hj => ?_
  obtain ⟨h1, h2, h3⟩ := D_step (a := a) (b := b) (i := i) (j := j) (by omega) (by omega)
  have b1 : bad1 (fun i j => ((D a b i j : Nat) : Int)) i j = false := by
    unfold bad1
    rw [Bool.or_eq_false_iff]
    constructor
    · by_cases c : 0 < i
      · rw [decide_eq_false (show ¬ (((D a b (i - 1) j : Nat) : Int) + 1 < ((D a b i j : Nat) : Int)) by have := h1 c; omega), Bool.and_false]
      · rw [decide_eq_false (by omega), Bool.false_and]
    · by_cases c : 0 < j
      · rw [decide_eq_false (show ¬ (((D a b i (j - 1) : Nat) : Int) + 1 < ((D a b i j : Nat) : Int)) by have := h2 c; omega), Bool.and_false]
      · rw [decide_eq_false (by omega), Bool.false_and]
  have b2 : bad2 a b (fun i j => ((D a b i j : Nat) : Int)) i j = false := by
    unfold bad2
    rw [dl_of]
    by_cases c : 0 < i
    · by_cases c' : 0 < j
      · rw [decide_eq_false (show ¬ (((D a b (i - 1) (j - 1) : Nat) : Int) + ((dl (a.getD (i - 1) 0) (b.getD (j - 1) 0) : Nat) : Int) < ((D a b i j : Nat) : Int)) by have := h3 c c'; omega), Bool.and_false, Bool.and_false]
      · rw [decide_eq_false (show ¬ 0 < (j : Int) by omega), Bool.false_and, Bool.and_false]
    · rw [decide_eq_false (show ¬ 0 < (i : Int) by omega), Bool.false_and]
  unfold okAt
  rw [b1, b2]; rfl
theorem shown_told (a b : List Nat) : shown a b a.length b.length (fun i j => (D a b i j : Nat)) (stp a b) (D a b a.length b.length : Nat) = true := by
  unfold shown
  rw [led_stp, priced_D]
  simp
theorem shown_more (a b : List Nat) (n m : Nat) (M : Nat → Nat → Int) : shown a b n m M (stp a b) ((D a b a.length b.length : Nat) + 1) = false := by
  unfold shown
  rw [led_stp, decide_eq_false (show ¬ (((D a b a.length b.length : Nat) : Int) = (D a b a.length b.length : Nat) + 1) by omega)]
  simp
theorem shown_self (a b : List Nat) {v : Int} (hv : 0 < v) (ss : List Step) : shown a b a.length a.length (fun i j => (D a a i j : Nat)) ss v = false := by
  unfold shown
  have e : decide (((D a a a.length a.length : Nat) : Int) = v) = false := by
    rw [D_end, L_self]
    exact decide_eq_false (by omega)
  rw [e, Bool.and_false, Bool.and_false]
/-! ### how many least ways, place by place -/
def Ww (a b : List Nat) (i j : Nat) : Nat := W (a.take i).reverse (b.take j).reverse
theorem Ww_end (a b : List Nat) : Ww a b a.length b.length = W a b := by unfold Ww; rw [List.take_length, List.take_length, W_rev]
theorem way_is {a b : List Nat} {V : Nat → Nat → Int} {i j : Nat} (hi : i ≤ a.length) (hj : j ≤ b.length) (h : ∀ r s, (r < i ∨ (r = i ∧ s < j)) → s ≤ b.length → V r s = (Ww a b r s : Nat)) : wayAt a b V i j = (Ww a b i j : Nat) := by
  unfold wayAt
  cases i with
  | zero =>
    cases j with
    | zero => rw [if_pos ⟨rfl, rfl⟩]; unfold Ww; rw [List.take_zero, List.reverse_nil, W_nil]; rfl
    | succ j =>
      rw [if_neg (by omega), if_neg (by omega), if_neg (by omega), if_pos ⟨by omega, by rw [Nat.add_sub_cancel, D_0 a b (by omega), D_0 a b hj]⟩, Nat.add_sub_cancel, h 0 j (.inr ⟨rfl, by omega⟩) (by omega)]
      unfold Ww
      rw [List.take_zero, List.reverse_nil, W_nil, W_nil]; rfl
  | succ i =>
    cases j with
    | zero =>
      rw [if_neg (by omega), if_neg (by omega), if_pos ⟨by omega, by rw [Nat.add_sub_cancel, D_n0 a b (by omega), D_n0 a b hi]⟩, if_neg (by omega), Nat.add_sub_cancel, h i 0 (.inl (by omega)) (by omega)]
      unfold Ww
      rw [List.take_zero, List.reverse_nil, W_nil', W_nil']; rfl
    | succ j =>
      rw [if_neg (by omega)]
      simp only [Nat.add_sub_cancel]
      rw [h i j (.inl (by omega)) (by omega), h i (j + 1) (.inl (by omega)) hj, h (i + 1) j (.inr ⟨rfl, by omega⟩) (by omega)]
      have e := W_cons (a.getD i 0) (b.getD j 0) (a.take i).reverse (b.take j).reverse
      rw [← take_rev (show i < a.length by omega), ← take_rev (show j < b.length by omega)] at e
      have e' : Ww a b (i + 1) (j + 1) = (if D a b i j + dl (a.getD i 0) (b.getD j 0) = D a b (i + 1) (j + 1) then Ww a b i j else 0) + (if D a b i (j + 1) + 1 = D a b (i + 1) (j + 1) then Ww a b i (j + 1) else 0) + (if D a b (i + 1) j + 1 = D a b (i + 1) (j + 1) then Ww a b (i + 1) j else 0) := e
      rw [e']
      have p1 : ∀ (P : Prop) [Decidable P], (0 < i + 1 ∧ P) = P := fun P _ => propext ⟨fun z => z.2, fun z => ⟨by omega, z⟩⟩
      have p2 : ∀ (P : Prop) [Decidable P], (0 < j + 1 ∧ P) = P := fun P _ => propext ⟨fun z => z.2, fun z => ⟨by omega, z⟩⟩
      simp only [p1, p2]
      split <;> split <;> split <;> omega
end K12

/-! ## K12W7 -/
set_option Elab.async false
set_option linter.all false
set_option maxRecDepth 100000
set_option maxHeartbeats 4000000
namespace K12
open PySem PySem.Spec PyProof.Rows L2 JD

/-! ### _law_pot -/
theorem sc__law_pot : FnScope ["script", "place", "cell", "own", "small"] ["script", "place"] (defScope sUlawUpot) := ⟨rfl, rfl, rfl, by decide +kernel, rfl, by decide +kernel, by decide +kernel⟩
abbrev R__law_pot : Says := fun π as d π' => ∃ (xs : List Int) (k : Nat), k ≤ 2 ∧ as = [.d (.list (xs.map .int)), .d (.int k)] ∧ d = .list (potOf xs k).dd ∧ π' = π
theorem D__law_pot {G : Glb} (T : Fx G) (A : As G) : DfN G 1 "_law_pot" ["script", "place"] R__law_pot := by
  refine mkDfN A.a__law_pot sc__law_pot (fun π as d π' h => by obtain ⟨xs, k, hk, rfl, hd, rfl⟩ := h; rfl) (fun _ _ _ _ _ _ us hl => match us, hl with | [_, _], _ => rfl) fun X c π as ds0 π' h => ?_
  obtain ⟨xs, k, hk, rfl, hd, rfl⟩ := h
  cases hd
  refine' ⟨_, jn_cons (js_asg c 2 (je_ifI (jt_cmp op_lt (fun q => rv_lt) (je_var c 1) (je_callB c (c_lenL c) T.f_len (fun _ => rc_lenL) (ds := [_]) (ja_cons (je_var c 0) (ja_nil)))) (je_ix (o_ixL c) (fun q => rv_ixL (d := .int (xs.getD k 0)) ?h1) (je_var c 0) (je_var c 1)) (je_op op_add (fun _ => rv_add) (je_op op_add (fun _ => rv_add) (je_op op_mod (fun q => rv_mod ?h2) (je_callTy c call_int1 T.f_int (fun _ => rc_int) (ds := [_]) (ja_cons (je_callB c (o_sum c) T.f_sum (fun _ => rc_sumCut) (ds := [_]) (ja_cons (JL.je (jl_slL c (je_var c 0) (jo_none) (jo_some (je_int)))) (ja_nil))) (ja_nil))) (je_int)) (je_op op_mul (fun q => rv_mul ?h3) (je_int) (je_var c 1))) (je_int)))) <|
    jn_cons (js_asg c 3 (je_op op_mul (fun q => rv_mul ?h8) (je_op op_mod (fun q => rv_mod ?h6) (je_callTy c call_int1 T.f_int (fun _ => rc_int) (ds := [_]) (ja_cons (je_callB c call_abs T.f_abs (fun _ => rc_abs) (ds := [_]) (ja_cons (je_var c 2) (ja_nil))) (ja_nil))) (je_op op_powB (fun q => rv_powB ?h5) (je_op op_pow (fun q => rv_pow ?h4) (je_int) (je_int)) (je_int))) (je_callTy c call_int1 T.f_int (fun _ => rc_intB) (ds := [_]) (ja_cons (je_cmp op_ge (fun q => rv_ge) (je_callB c call_abs T.f_abs (fun _ => rc_abs) (ds := [_]) (ja_cons (je_var c 2) (ja_nil))) (je_op op_pow (fun q => rv_pow ?h7) (je_int) (je_int))) (ja_nil))))) <|
    jn_cons (js_asg c 4 (je_op op_mod (fun q => rv_mod ?h9) (je_callTy c call_int1 T.f_int (fun _ => rc_int) (ds := [_]) (ja_cons (je_var c 2) (ja_nil))) (je_int))) <|
    jn_ret (JL.is (jl_lst (ds := [_, _, _]) (ja_cons (je_var c 3) (ja_cons (je_op op_mod (fun q => rv_mod ?h13) (je_callTy c call_int1 T.f_int (fun _ => rc_int) (ds := [_]) (ja_cons (je_op op_add (fun _ => rv_add) (je_op op_add (fun _ => rv_add) (je_op op_mul (fun q => rv_mul ?h10) (je_var c 4) (je_int)) (je_op op_mul (fun q => rv_mul ?h12) (je_op op_mul (fun q => rv_mul ?h11) (je_int) (je_var c 1)) (je_var c 1))) (je_int)) (ja_nil))) (je_int)) (ja_cons (je_int) (ja_nil)))) (by show 3 ≤ sizeLine; decide)) (fun q => ?h14))⟩
  case h1 => -- item of script[place]
    exact at_ints (by have := of_decide_eq_true q.2; rw [List.length_map] at this; omega)
  case h2 => -- int(sum(script[:1])) % 1000003
    decide
  case h3 => -- 5393 * place
    exact .inl ⟨by decide, by decide⟩
  case h4 => -- power
    exact ⟨by decide, by decide, by decide⟩
  case h5 => -- power
    exact ⟨by decide, by decide +kernel⟩
  case h6 => -- int(abs(cell)) % (10 ** 60) ** 5
    decide +kernel
  case h7 => -- power
    exact ⟨by decide, by decide, by decide⟩
  case h8 => -- int(abs(cell)) % (10 ** 60) ** 5 * int(abs(cell) >= 10 ** 18)
    exact .inr bit_in
  case h9 => -- int(cell) % 2305843009213693951
    decide
  case h10 => -- small * 113561
    exact .inr ⟨by decide, by decide⟩
  case h11 => -- 17647 * place
    exact .inl ⟨by decide, by decide⟩
  case h12 => -- 17647 * place * place
    exact .inr ⟨by omega, by omega⟩
  case h13 => -- int(small * 113561 + 17647 * place * place + 5213) % 2305843009213693921
    decide
  case h14 => -- new list
    rw [List.length_map]; rfl
end K12

/-! ## K12How -/
set_option Elab.async false
set_option linter.all false
set_option maxRecDepth 100000
set_option maxHeartbeats 4000000
/-! k12: how_many_least, by hand: the ways stand in lists that the def itself made -/
namespace K12
open PySem PySem.Spec PyProof.Rows L2 JD

def rowsV (n m : Nat) (V : Nat → Nat → Int) : List (List Int) := (List.range n).map fun r => (List.range m).map fun s => V r s
def VV (a b : List Nat) (i j r s : Nat) : Int := if r < i ∨ (r = i ∧ s < j) then (Ww a b r s : Nat) else 1
theorem rows_at {n m : Nat} {V : Nat → Nat → Int} {i : Nat} (h : i < n) : (rowsV n m V)[i]? = some ((List.range m).map (V i)) := by
  unfold rowsV
  rw [List.getElem?_map, List.getElem?_range h]; rfl
theorem range_setG {α : Type} {n j : Nat} {f : Nat → α} {x : α} (g : Nat → α) (hx : g j = x) (h : ∀ r, r < n → r ≠ j → f r = g r) : ((List.range n).map f).set j x = (List.range n).map g := by
  refine List.ext_getElem? fun r => ?_
  by_cases c : j = r
  · subst c
    by_cases cn : j < n
    · rw [List.getElem?_set_self (by rw [List.length_map, List.length_range]; exact cn), List.getElem?_map, List.getElem?_range cn, ← hx]; rfl
    · rw [List.getElem?_eq_none (by rw [List.length_set, List.length_map, List.length_range]; omega), List.getElem?_eq_none (by rw [List.length_map, List.length_range]; omega)]
  · rw [List.getElem?_set_ne c, List.getElem?_map, List.getElem?_map]
    by_cases cn : r < n
    · rw [List.getElem?_range cn]
      show some (f r) = some (g r)
      rw [h r cn (Ne.symm c)]
    · rw [List.getElem?_eq_none (by rw [List.length_range]; omega)]; rfl
theorem rows_set {n m : Nat} {V V' : Nat → Nat → Int} {i j : Nat} {z : Int} (hz : V' i j = z) (h : ∀ r s, ¬ (r = i ∧ s = j) → V r s = V' r s) : (rowsV n m V).set i (((List.range m).map (V i)).set j z) = rowsV n m V' := by
  unfold rowsV
  refine range_setG _ ?_ fun r _ hr => List.map_congr_left fun s _ => h r s fun q => hr q.1
  exact (range_setG (V' i) hz fun s _ hs => h i s fun q => hs q.2).symm
theorem rows_data (n m : Nat) (V : Nat → Nat → Int) : PyData.list ((rowsV n m V).map fun r => .list (r.map .int)) = bdL n m V := by
  unfold rowsV
  rw [List.map_map]
  show PyData.list _ = PyData.list _
  congr 1
  refine List.map_congr_left fun r _ => ?_
  show PyData.list (((List.range m).map (V r)).map .int) = .list _
  rw [List.map_map]; rfl
abbrev wArgs : TA := tCons (tVar 0) (tCons (tVar 1) (tCons (tVar 2) (tCons (tVar 3) (tCons (tVar 5) (tCons (tVar 6) tNil)))))
abbrev wSet (K : PySem.W.Frag) : TS := tAsg (tCall (spR K R_ways_at) [] E0 wArgs) (gSub (tOp (rIxL K) (tVar 3) (tVar 5)) (tVar 6) rSetL)
section
variable {K : PySem.W.Frag} {w : Wd} {Z : Hp} {ρ : List Sl} {π : Pot} {H : Hp} {σ : L2.St} {o : Addr} {ps : List Addr} {a b : List Nat}
theorem how_set {Wf : Nat → Nat → Int} {i j : Nat} {D : Ends} (T : Two K w Z ρ π H σ 3 o ps (rowsV (a.length + 1) (b.length + 1) Wf)) (h0 : ρ[0]? = some (.val (st a))) (h1 : ρ[1]? = some (.val (st b))) (h2 : ρ[2]? = some (.val (brd a b))) (h5 : ρ[5]? = some (.val (.int (i : Nat)))) (h6 : ρ[6]? = some (.val (.int (j : Nat))))
    (ha : Row a) (hb : Row b) (hi : i ≤ a.length) (hj : j ≤ b.length) (k : ∀ H' V', V' i j = wayAt a b Wf i j → (∀ r s, ¬ (r = i ∧ s = j) → Wf r s = V' r s) → Two K w Z ρ π H' σ 3 o ps (rowsV (a.length + 1) (b.length + 1) V') → D.nx σ H') : wSet K D σ H := by
  obtain ⟨v0, e0, d0⟩ := T.rel.vals 0 _ h0
  obtain ⟨v1, e1, d1⟩ := T.rel.vals 1 _ h1
  obtain ⟨v2, e2, d2⟩ := T.rel.vals 2 _ h2
  obtain ⟨v5, e5, d5⟩ := T.rel.vals 5 _ h5
  obtain ⟨v6, e6, d6⟩ := T.rel.vals 6 _ h6
  cases d5
  cases d6
  have up : Same (mask (Wd.M ⟨w.P, fun a => w.L0 a ∨ a ∈ o :: ps, Z, w.ad⟩ ρ) H) (mask w.L0 H) := mask_mono fun a o n h => ⟨fun m => n (.inl (.inl m)), h⟩
  refine ⟨v0, e0, v1, e1, v2, e2, .ref o, T.slot, .int (i : Nat), e5, .int (j : Nat), e6, ?_⟩
  show spR K R_ways_at _ H _ E0
  have hdat := T.data (M := w.L0) fun a h => (T.sep a h).2.2
  rw [rows_data] at hdat
  refine ⟨w.P, w.L0, [.d (st a), .d (st b), .d (brd a b), .d (bdL (a.length + 1) (b.length + 1) Wf), .d (.int (i : Nat)), .d (.int (j : Nat))], π, .int (wayAt a b Wf i j), π, fun x m => T.rel.domL x (.inl m), fun p e => ?_, T.rel.pot,
    .d (Dp.up up _ d0) (.d (Dp.up up _ d1) (.d (Dp.up up _ d2) (.d hdat (.d (.int _) (.d (.int _) .nil))))), ⟨a, b, Wf, (i, j), ha, hb, hi, hj, rfl, rfl, rfl⟩, fun v H' x2 p2 dp => ?_⟩
  · rcases T.rel.potL p e with z | z
    · exact z
    · exact absurd e (T.sep p z).2.1
  · cases dp
    have T' := T.step x2 p2
    have hil : i < ps.length := by rw [T'.len]; unfold rowsV; rw [List.length_map, List.length_range]; omega
    have hp : ps[i]? = some ps[i] := List.getElem?_eq_getElem hil
    have hr := rows_at (n := a.length + 1) (m := b.length + 1) (V := Wf) (i := i) (by omega)
    refine ⟨.ref o, T'.slot, .int (i : Nat), e5, o, ps.map V.ref, (i : Int), .ref ps[i], rfl, rfl, .inl (.inl T'.top), at_nat rfl (by rw [List.getElem?_map, hp]; rfl), .int (j : Nat), e6, ps[i], _, (j : Int), j, rfl, rfl, T'.row i _ _ hp hr, ?_, ?_⟩
    · rw [List.length_map, List.length_map, List.length_range]; exact ixN_of (by omega)
    · have T2 := T'.poke hp hr j (wayAt a b Wf i j)
      have es := rows_set (n := a.length + 1) (m := b.length + 1) (V := Wf) (V' := fun r s => if r = i ∧ s = j then wayAt a b Wf i j else Wf r s) (i := i) (j := j) (z := wayAt a b Wf i j) (if_pos ⟨rfl, rfl⟩) fun r s q => (if_neg q).symm
      rw [es] at T2
      exact k _ _ (if_pos ⟨rfl, rfl⟩) (fun r s q => (if_neg q).symm) T2
theorem rows_congr {n m : Nat} {V1 V2 : Nat → Nat → Int} (h : ∀ r s, r < n → s < m → V1 r s = V2 r s) : rowsV n m V1 = rowsV n m V2 := by
  unfold rowsV
  exact List.map_congr_left fun r hr => List.map_congr_left fun s hs => h r s (List.mem_range.mp hr) (List.mem_range.mp hs)
theorem rows_ones (a b : List Nat) (n m : Nat) : List.replicate n ((List.range m).map fun _ => (1 : Int)) = rowsV n m (VV a b 0 0) := by
  unfold rowsV
  refine List.ext_getElem? fun r => ?_
  rw [List.getElem?_replicate, List.getElem?_map]
  by_cases c : r < n
  · rw [if_pos c, List.getElem?_range c]
    show some _ = some _
    congr 1
    refine List.map_congr_left fun s _ => ?_
    unfold VV
    rw [if_neg (by omega)]
  · rw [if_neg c, List.getElem?_eq_none (by rw [List.length_range]; omega)]; rfl
abbrev rho (a b : List Nat) : List Sl := [.val (st a), .val (st b), .val (brd a b), .un, .un, .un, .un]
theorem set_same {σ : L2.St} {i : Nat} {x : Option L2.V} (h : σ[i]? = some x) : σ.set i x = σ := by
  refine List.ext_getElem? fun j => ?_
  by_cases c : i = j
  · subst c
    rw [h, List.getElem?_set_self (List.getElem?_eq_some_iff.mp h).1]
  · rw [List.getElem?_set_ne c]
theorem rho_no (a b : List Nat) (i : Nat) : ¬ ownAt (rho a b) i := fun ⟨s, h1, h2⟩ => by
  rcases i with _ | _ | _ | _ | _ | _ | _ | i <;> simp at h1 <;> subst h1 <;> exact h2
/-- the list of lists as data, at the end -/
theorem two_end {rows : List (List Int)} (T : Two K w w.H0 (rho a b) π H σ 3 o ps rows) : Rel K w ((rho a b).set 3 (.val (.list (rows.map fun r => .list (r.map .int))))) π H σ := by
  have R := T.rel
  have up : Same (mask (Wd.M ⟨w.P, fun a => w.L0 a ∨ a ∈ o :: ps, w.H0, w.ad⟩ (rho a b)) H) (mask (w.M (rho a b)) H) := mask_mono fun x u n h => ⟨fun m => n (by
    rcases m with m | m
    · exact .inl (.inl m)
    · exact .inr m), h⟩
  have R0 : Rel K w (rho a b) π H σ := ⟨R.len, fun p e => by
      rcases R.potL p e with z | z
      · exact z
      · exact absurd e (T.sep p z).2.1, R.pot, R.ext, fun x m => R.domL x (.inl m), fun j h => absurd h (rho_no a b j), fun j h => absurd h (rho_no a b j), fun j _ h => absurd h (rho_no a b j), fun j d h => by
      obtain ⟨v, h1, h2⟩ := R.vals j d h
      exact ⟨v, h1, Dp.up up _ h2⟩, fun j ds h => absurd ⟨_, h, trivial⟩ (rho_no a b j), fun j kvs h => absurd ⟨_, h, trivial⟩ (rho_no a b j), R.pots⟩
  have q := R0.set (i := 3) (v := .ref o) (T.data (M := w.M (rho a b)) fun x hx => by
    rintro (m | ⟨j, hj, _⟩)
    · exact (T.sep x hx).2.2 m
    · exact rho_no a b j hj)
  rw [set_same T.slot] at q
  exact q
theorem how_ev {t1 t2 t3 : TA} {te tr : TE} (ha : Row a) (hb : Row b) (e1 : ∀ ρ : List Sl, ρ[0]? = some (.val (st a)) → EvA K t1 ρ π [.d (.int ((a.length : Nat) + 1))] π) (e2 : ∀ ρ : List Sl, ρ[0]? = some (.val (st a)) → EvA K t2 ρ π [.d (.int ((a.length : Nat) + 1))] π) (e3 : ∀ ρ : List Sl, ρ[1]? = some (.val (st b)) → EvA K t3 ρ π [.d (.int ((b.length : Nat) + 1))] π)
    (ee : ∀ ρ : List Sl, ρ[1]? = some (.val (st b)) → EvL K te ρ π (((List.range (b.length + 1)).map fun _ => (1 : Int)).map .int) π) (er : ∀ (ρ : List Sl) (Wf : Nat → Nat → Int), ρ[3]? = some (.val (bdL (a.length + 1) (b.length + 1) Wf)) → EvD K tr ρ π (.int (Wf a.length b.length)) π) :
    EvS K (tSeq (tAsg (tLc (iRng1 t1) (gName 4) tYes te [4]) (gName 3)) (tSeq (tFor (iRng1 t2) (gName 5) (tFor (iRng1 t3) (gName 6) (wSet K))) (tRet tr))) (rho a b) π (toEnd (.int (Ww a b a.length b.length : Nat)) π) := fun w H σ D R n r bk t => by
  have hla := ha.1
  have hlb := hb.1
  have tn : ((a.length : Nat) + 1 : Int).toNat = a.length + 1 := by omega
  have tm : ((b.length : Nat) + 1 : Int).toNat = b.length + 1 := by omega
  refine two_lc (v := 4) (s := 3) (r := (List.range (b.length + 1)).map fun _ => (1 : Int)) R (e1 _ rfl) ⟨by omega, by omega, by omega⟩ rfl rfl (by rw [R.len]; exact Nat.le_of_ble_eq_true rfl) (fun i => ee _ rfl) fun o ps H1 T1 => ?_
  rw [tn, rows_ones a b] at T1
  refine (e2 _ rfl) _ H1 _ T1.rel _ fun vs H2 x2 p2 q2 => ?_
  obtain ⟨u, rfl, hu⟩ := all1 (AgAll.data (ds := [.int ((a.length : Nat) + 1)]) q2)
  cases hu
  refine ⟨_, rfl, by omega, by omega, ?_⟩
  have T2 := T1.step x2 p2
  rw [tn]
  refine for_it (walk_range (lo := 0) (n := a.length + 1)) (fun i σ' H' => Two K w w.H0 (rho a b) π H' σ' 3 o ps (rowsV (a.length + 1) (b.length + 1) (VV a b i 0))) T2 (fun _ _ _ _ _ => trivial) (fun i x σ' Hc H' hlt T hY => ?_) (fun σ' H' T => ?_)
  · obtain ⟨eH, ex⟩ := hY
    subst eH ex
    have T5 := T.set (i := 5) (by decide) (v := .int ((0 : Int) + (i : Int))) (d := .int (i : Nat)) (fun _ => by rw [Int.zero_add]; exact .int _)
    refine (e3 _ rfl) _ H' _ T5.rel _ fun vs H3 x3 p3 q3 => ?_
    obtain ⟨u, rfl, hu⟩ := all1 (AgAll.data (ds := [.int ((b.length : Nat) + 1)]) q3)
    cases hu
    refine ⟨_, rfl, by omega, by omega, ?_⟩
    have T6 := T5.step x3 p3
    rw [tm]
    refine for_it (walk_range (lo := 0) (n := b.length + 1)) (fun j σ' H' => Two K w w.H0 ((rho a b).set 5 (.val (.int (i : Nat)))) π H' σ' 3 o ps (rowsV (a.length + 1) (b.length + 1) (VV a b i j))) T6 (fun _ _ _ _ _ => trivial) (fun j x σ2 Hc2 H4 hlt2 T hY => ?_) (fun σ2 H4 T => ?_)
    · obtain ⟨eH, ex⟩ := hY
      subst eH ex
      have T7 := T.set (i := 6) (by decide) (v := .int ((0 : Int) + (j : Int))) (d := .int (j : Nat)) (fun _ => by rw [Int.zero_add]; exact .int _)
      refine how_set (i := i) (j := j) T7 rfl rfl rfl rfl rfl ha hb (by omega) (by omega) fun H5 V' hv hn T8 => ?_
      have T9 := T8.forget [6]
      have ew : wayAt a b (VV a b i j) i j = (Ww a b i j : Nat) := way_is (by omega) (by omega) fun r s h hs => by unfold VV; rw [if_pos h]
      rw [rows_congr (V2 := VV a b i (j + 1)) fun r s hr hs => by
        by_cases c : r = i ∧ s = j
        · obtain ⟨c1, c2⟩ := c
          subst c1 c2
          rw [hv, ew]; unfold VV; rw [if_pos (by omega)]
        · rw [← hn r s c]; unfold VV
          by_cases c2 : r < i ∨ (r = i ∧ s < j)
          · rw [if_pos c2, if_pos (by omega)]
          · rw [if_neg c2, if_neg (by omega)]] at T9
      exact T9
    · have T9 := T.forget [5]
      rw [rows_congr (V2 := VV a b (i + 1) 0) fun r s hr hs => by
        unfold VV
        by_cases c2 : r < i ∨ (r = i ∧ s < b.length + 1)
        · rw [if_pos c2, if_pos (by omega)]
        · rw [if_neg c2, if_neg (by omega)]] at T9
      exact T9
  · have R2 := two_end T
    rw [rows_data] at R2
    refine er _ (VV a b (a.length + 1) 0) rfl w H' σ' R2 _ fun v H3 x3 p3 q3 => ?_
    refine r v _ π H3 ⟨?_, rfl⟩ trivial (R2.ext.trans x3) p3 (Dp.up (mask_mono fun a o nn h => ⟨fun m => nn (.inl m), h⟩) _ q3)
    show PyData.int (VV a b (a.length + 1) 0 a.length b.length) = .int (Ww a b a.length b.length : Nat)
    unfold VV
    rw [if_pos (by omega)]
end
theorem sc_how_many_least : FnScope ["one", "other", "board", "ways", "lap", "at", "to"] ["one", "other"] (defScope showUmanyUleast) := ⟨rfl, rfl, rfl, by decide +kernel, rfl, by decide +kernel, by decide +kernel⟩
abbrev R_how_many_least : Says := fun π as d π' => ∃ a b, Row a ∧ Row b ∧ a.length ≤ 60 ∧ b.length ≤ 60 ∧ as = [.d (st a), .d (st b)] ∧ d = .int (Ww a b a.length b.length : Nat) ∧ π' = π
theorem ones_rep (m : Nat) : (List.replicate ((m : Nat) + 1 : Int).toNat [PyData.int 1]).flatten = ((List.range (m + 1)).map fun _ => (1 : Int)).map .int := by
  rw [show ((m : Nat) + 1 : Int).toNat = m + 1 by omega, List.map_map]
  generalize m + 1 = k
  induction k with
  | zero => rfl
  | succ k ih => rw [List.replicate_succ', List.flatten_append, ih, List.range_succ, List.map_append]; rfl
theorem D_how_many_least {G : Glb} (T : Fx G) (A : As G) : Df G 4 "how_many_least" ["one", "other"] R_how_many_least := by
  refine mkDf A.a_how_many_least sc_how_many_least (fun π as d π' h => by obtain ⟨a, b, ha, hb, h1, h2, rfl, rfl, rfl⟩ := h; rfl) (fun _ _ _ _ _ _ us hl => match us, hl with | [_, _], _ => rfl) fun X c π as d π' h => ?_
  obtain ⟨a, b, ha, hb, h1, h2, rfl, rfl, rfl⟩ := h
  obtain ⟨f, fd, F, hbn, hm, hk⟩ := ((D_ways_at T A).mono (show 1 ≤ 3 by decide)).ok
  have sl := sizeLine_eq
  refine' ⟨_, jss_cons (js_drop (je_call c ((D_check_board T A).mono (by decide)) (ja_cons (je_var c 0) (ja_cons (je_var c 1) ja_nil)) (fun q => ⟨a, b, ha, hb, h1, h2, rfl, rfl, rfl⟩)) (fun _ => ⟨rfl, rfl⟩)) <|
    jss_cons (js_asg c 2 (je_call c ((D_board_of T A).mono (by decide)) (ja_cons (je_var c 0) (ja_cons (je_var c 1) ja_nil)) (fun q => ⟨a, b, ha, hb, rfl, rfl, rfl⟩))) <|
    ⟨pss_cons (js_asgLc (ρ := rho a b) (π := π') (g := True) (C := { nx := fun _ _ => True, rt := fun _ _ => True }) c 3 (jlc_map (j := 4) c (ji_rng1 c (je_op op_add (fun _ => rv_add) (je_callB c call_len_str T.f_len (fun q => rc_lenS ha.line) (ds := [_]) (ja_cons (je_var c 0) ja_nil)) je_int) (fun q => ?h1) T.f_range) (fun q => ?h2)
        (fun Y cY i => JL.je (jl_rep (jl_lst (ds := [_]) (ja_cons je_int ja_nil) (by show 1 ≤ sizeLine; decide)) (je_op op_add (fun _ => rv_add) (je_callB cY call_len_str T.f_len (fun q => rc_lenS hb.line) (ds := [_]) (ja_cons (je_var cY 1) ja_nil)) je_int) (fun q => ?h3)))) (kk := fun _ => trivial)).ps <|
      pss_cons (ps_for (by rw [c.xe]; exact PassesOwn.never) c.calm (ji_rng1 (ρ := rho a b) (π := π') (g := True) c (je_op op_add (fun _ => rv_add) (je_callB c call_len_str T.f_len (fun q => rc_lenS ha.line) (ds := [_]) (ja_cons (je_var c 0) ja_nil)) je_int) (fun q => ?h4) T.f_range).pi (pg_nameG c 5)
        (pss_one (ps_for (by rw [c.xe]; exact PassesOwn.never) c.calm (ji_rng1 (ρ := rho a b) (π := π') (g := True) c (je_op op_add (fun _ => rv_add) (je_callB c call_len_str T.f_len (fun q => rc_lenS hb.line) (ds := [_]) (ja_cons (je_var c 1) ja_nil)) je_int) (fun q => ?h5) T.f_range).pi (pg_nameG c 6)
          (pss_one (ps_asg (pe_callG c F hbn hm hk (ja_cons (G := G) (g := True) (je_var (ρ := (((rho a b).set 3 (.val .none)).set 5 (.val .none)).set 6 (.val .none)) (π := π') c 0) (ja_cons (je_var c 1) (ja_cons (je_var c 2) (ja_cons (je_var c 3) (ja_cons (je_var c 5) (ja_cons (je_var c 6) ja_nil)))))).pa)
            (pg_sub (pe_ix (o_ixL c) (pvG c 3) (pvG c 5) (fun _ _ => rfl)) (pvG c 6) set_list (by intro _; rfl)))) (by intro _; rfl))) (by intro _; rfl)) <|
      pss_one (js_ret (ρ := (rho a b).set 3 (.val (bdL (a.length + 1) (b.length + 1) fun _ _ => 0))) (π := π') (g := True) (C := { nx := fun _ _ => True, rt := fun _ _ => True }) (je_ix (o_ixL c) (fun q => rv_ixLE (n := b.length) (f := fun j => .int 0)) (je_ix (o_ixL c) (fun q => rv_ixLE (n := a.length) (f := fun i => lnL (b.length + 1) fun _ => 0)) (je_var c 3) (je_un un_neg (fun _ => ru_neg) je_int)) (je_un un_neg (fun _ => ru_neg) je_int)) (fun _ => trivial)).ps,
     fun _ => how_ev ha hb (fun ρ h => ea_cons (ev_op (ev_cb (ea_cons (ev_var h) ea_nil) (rc_lenS ha.line)) (ev_c fun _ => .int _) rv_add) ea_nil) (fun ρ h => ea_cons (ev_op (ev_cb (ea_cons (ev_var h) ea_nil) (rc_lenS ha.line)) (ev_c fun _ => .int _) rv_add) ea_nil) (fun ρ h => ea_cons (ev_op (ev_cb (ea_cons (ev_var h) ea_nil) (rc_lenS hb.line)) (ev_c fun _ => .int _) rv_add) ea_nil)
       (fun ρ h => ?h6) (fun ρ Wf h => ?h7)⟩⟩
  case h1 => omega
  case h2 => omega
  case h3 => exact ⟨by omega, by show 1 * _ ≤ _; omega⟩
  case h4 => omega
  case h5 => omega
  case h6 =>
    rw [← ones_rep b.length]
    exact el_rep (el_lst (ea_cons (ev_c fun _ => .int _) ea_nil) (by show 1 ≤ sizeLine; decide)) (ev_op (ev_cb (ea_cons (ev_var h) ea_nil) (rc_lenS hb.line)) (ev_c fun _ => .int _) rv_add) (by omega) (by show 1 * _ ≤ _; omega)
  case h7 => exact ev_op (ev_op (ev_var h) (ev_un (ev_c fun _ => .int _) ru_neg) (rv_ixLE (n := a.length) (f := fun i => lnL (b.length + 1) (Wf i)))) (ev_un (ev_c fun _ => .int _) ru_neg) (rv_ixLE (n := b.length) (f := fun j => .int (Wf a.length j)))
end K12

/-! ## K12Law4 -/
set_option Elab.async false
set_option linter.all false
set_option maxRecDepth 100000
set_option maxHeartbeats 2000000
namespace K12
open PySem PySem.Spec PyProof.Rows L2 JD
theorem Row.rev {a : List Nat} (h : Row a) : Row a.reverse := ⟨by rw [List.length_reverse]; exact h.1, fun c hc => h.2 c (List.mem_reverse.mp hc)⟩
theorem three_eq {x y z n : Int} (h1 : x = n) (h2 : y = n) (h3 : z = n) : (!PyData.eqv (.list [.int x, .int y, .int z]) (.list (List.replicate (3 : Int).toNat [PyData.int n]).flatten)) = false := by
  subst h1 h2
  rw [h3]
  show (!PyData.eqv (.list [.int y, .int y, .int y]) (.list [.int y, .int y, .int y])) = false
  simp [PyData.eqv, PyData.eqvAll]
theorem D_rev (a b : List Nat) : D a.reverse b.reverse a.reverse.length b.reverse.length = L a b := by rw [D_end, L_rev]
theorem Ww_rev (a b : List Nat) : Ww a.reverse b.reverse a.reverse.length b.reverse.length = W a b := by rw [Ww_end, W_rev]
theorem D_bound {a b : List Nat} (ha : a.length ≤ 30) (hb : b.length ≤ 30) : ∀ i j, i ≤ a.length → j ≤ b.length → (-120 : Int) ≤ ((D a b i j : Nat) : Int) ∧ ((D a b i j : Nat) : Int) ≤ 120 := fun i j hi hj => by
  have := D_le a b i j hi hj; omega
theorem D_zero (a b : List Nat) : ((D a b 0 0 : Nat) : Int) = 0 := by rw [D_0 a b (Nat.zero_le _)]; rfl
theorem L_small {a b : List Nat} (ha : a.length ≤ 30) (hb : b.length ≤ 30) : L a b ≤ 60 := by
  have := L_le _ a b (Nat.le_refl _); omega
theorem ne_keep {ss : List Step} : (given ss.length (fun i => !decide ((ss.getD i .keep).w = "keep")) fun i => (ss.getD i .keep).d).length = (ss.filter fun s => !decide (s = .keep)).length := by
  unfold given
  rw [List.length_map]
  have e : (List.range ss.length).filter (fun i => !decide ((ss.getD i .keep).w = "keep")) = (List.range ss.length).filter ((fun s => !decide (s = Step.keep)) ∘ fun i => ss.getD i .keep) := List.filter_congr fun i _ => by rw [w_keep]; rfl
  rw [e]
  have e2 : ss = (List.range ss.length).map fun i => ss.getD i .keep := by
    refine List.ext_getElem? fun j => ?_
    rw [List.getElem?_map]
    by_cases c : j < ss.length
    · rw [List.getElem?_range c, List.getElem?_eq_getElem c, Option.map_some, List.getD_eq_getElem?_getD, List.getElem?_eq_getElem c]; rfl
    · rw [List.getElem?_eq_none (by omega), List.getElem?_eq_none (by rw [List.length_range]; omega)]; rfl
  conv => rhs; rw [e2]
  rw [List.filter_map, List.length_map]
theorem show_ok {n : Nat} (h : n ≤ 1000) : (PyData.int (n : Nat)).showable = true := by
  rw [PyData.showable]
  refine decide_eq_true ?_
  show (Int.natAbs (n : Int)).log2 < 1920
  rw [Int.natAbs_natCast]
  exact Nat.lt_of_le_of_lt (Nat.log2_le_self n) (by omega)
theorem show_len {n : Nat} (h : n ≤ 1000) : (PyData.int (n : Nat)).shown.length ≤ sizeLine := by
  rw [PyData.shown]
  refine int_text_fits ?_
  rw [Int.natAbs_natCast]
  exact Nat.lt_of_le_of_lt (Nat.log2_le_self n) (by omega)
end K12

/-! ## K12W8 -/
set_option Elab.async false
set_option linter.all false
set_option maxRecDepth 100000
set_option maxHeartbeats 4000000
namespace K12
open PySem PySem.Spec PyProof.Rows L2 JD

/-! ### _law_is_told -/
theorem sc__law_is_told : FnScope ["one", "other", "number", "ways", "told", "step"] ["one", "other", "number", "ways"] (defScope sUlawUisUtold) := ⟨rfl, rfl, rfl, by decide +kernel, rfl, by decide +kernel, by decide +kernel⟩
abbrev R__law_is_told : Says := fun π as d π' => ∃ (a b : List Nat) (N Wn : Nat), Row a ∧ Row b ∧ a.length ≤ 30 ∧ b.length ≤ 30 ∧ L a b = N ∧ W a b = Wn ∧ as = [.d (st a), .d (st b), .d (.int N), .d (.int Wn)] ∧ d = .bool true ∧ π' = π
theorem D__law_is_told {G : Glb} (T : Fx G) (A : As G) : Df G 6 "_law_is_told" ["one", "other", "number", "ways"] R__law_is_told := by
  refine mkDf A.a__law_is_told sc__law_is_told (fun π as d π' h => by obtain ⟨a, b, N, Wn, ha, hb, h1, h2, hL, hW, rfl, rfl, rfl⟩ := h; rfl) (fun _ _ _ _ _ _ us hl => match us, hl with | [_, _, _, _], _ => rfl) fun X c π as d π' h => ?_
  obtain ⟨a, b, N, Wn, ha, hb, h1, h2, hL, hW, rfl, rfl, rfl⟩ := h
  have hD : D a b a.length b.length = N := by rw [D_end]; exact hL
  have hN : N ≤ 60 := by have := L_small h1 h2; omega
  refine' ⟨_, jss_if (jt_cmp (o_neD c) (fun q => rv_neD ?h4 ?h5) (JL.je (jl_lst (ds := [_, _, _]) (ja_cons (je_call c ((D_least_changes T A).mono (by decide)) (ja_cons (je_var c 0) (ja_cons (je_var c 1) (ja_nil))) (fun q => ⟨a, b, ha, hb, by omega, by omega, rfl, rfl, rfl⟩)) (ja_cons (je_call c ((D_least_changes T A).mono (by decide)) (ja_cons (je_var c 1) (ja_cons (je_var c 0) (ja_nil))) (fun q => ⟨b, a, hb, ha, by omega, by omega, rfl, rfl, rfl⟩)) (ja_cons (je_call c ((D_least_changes T A).mono (by decide)) (ja_cons (je_revS (je_var c 0) (fun q => ?h1)) (ja_cons (je_revS (je_var c 1) (fun q => ?h2)) (ja_nil))) (fun q => ⟨a.reverse, b.reverse, ha.rev, hb.rev, by rw [List.length_reverse]; omega, by rw [List.length_reverse]; omega, rfl, rfl, rfl⟩)) (ja_nil)))) (by show 3 ≤ sizeLine; decide))) (JL.je (jl_rep (jl_lst (ds := [_]) (ja_cons (je_var c 2) (ja_nil)) (by show 1 ≤ sizeLine; decide)) (je_int) (fun q => ?h3))))
    (jss_one (js_ret (je_bl) (fun q => ?h6)))
    (jss_if (jt_cmp (o_neD c) (fun q => rv_neD ?h10 ?h11) (JL.je (jl_lst (ds := [_, _, _]) (ja_cons (je_call c ((D_how_many_least T A).mono (by decide)) (ja_cons (je_var c 0) (ja_cons (je_var c 1) (ja_nil))) (fun q => ⟨a, b, ha, hb, by omega, by omega, rfl, rfl, rfl⟩)) (ja_cons (je_call c ((D_how_many_least T A).mono (by decide)) (ja_cons (je_var c 1) (ja_cons (je_var c 0) (ja_nil))) (fun q => ⟨b, a, hb, ha, by omega, by omega, rfl, rfl, rfl⟩)) (ja_cons (je_call c ((D_how_many_least T A).mono (by decide)) (ja_cons (je_revS (je_var c 0) (fun q => ?h7)) (ja_cons (je_revS (je_var c 1) (fun q => ?h8)) (ja_nil))) (fun q => ⟨a.reverse, b.reverse, ha.rev, hb.rev, by rw [List.length_reverse]; omega, by rw [List.length_reverse]; omega, rfl, rfl, rfl⟩)) (ja_nil)))) (by show 3 ≤ sizeLine; decide))) (JL.je (jl_rep (jl_lst (ds := [_]) (ja_cons (je_var c 3) (ja_nil)) (by show 1 ≤ sizeLine; decide)) (je_int) (fun q => ?h9))))
    (jss_one (js_ret (je_bl) (fun q => ?h12)))
    (jss_cons (js_asg c 4 (je_call c ((D_changes_told T A).mono (by decide)) (ja_cons (je_var c 0) (ja_cons (je_var c 1) (ja_nil))) (fun q => ⟨a, b, ha, hb, by omega, by omega, rfl, rfl, rfl⟩))) <|
    jss_if (JW.jt (jw_or (jt_cmp op_ne (fun q => rv_neS) (je_callB c (o_repr c) T.f_repr (fun q => rc_repr ?h13 ?h14 ?h15 ?h16) (ds := [_]) (ja_cons (je_ix (o_ixT c) (fun q => rv_ixTc0) (je_var c 4) (je_int)) (ja_nil))) (je_callB c (o_repr c) T.f_repr (fun q => rc_repr ?h17 ?h18 ?h19 ?h20) (ds := [_]) (ja_cons (je_var c 2) (ja_nil)))) (jw_or (jt_cmp op_notBl (fun q => rv_notB) (je_call c ((D_shows_changes T A).mono (by decide)) (ja_cons (je_var c 0) (ja_cons (je_var c 1) (ja_cons (je_var c 4) (ja_nil)))) (fun q => ⟨a, b, a.length, b.length, fun i j => (D a b i j : Nat), stp a b, (D a b a.length b.length : Nat), ha, hb, by omega, by omega, by omega, by omega, D_bound h1 h2, D_zero _ _, by have := stp_len a b; omega, by omega, by have := L_small h1 h2; omega, rfl, rfl, rfl⟩)) (je_bl)) (jw_or1 (jt_cmp op_notBl (fun q => rv_notB) (je_call c ((D_shows_changes T A).mono (by decide)) (ja_cons (je_var c 0) (ja_cons (je_var c 1) (ja_cons (je_op (o_catT c) (fun q => rv_catT ?h22 ?h23 ?h24) (je_tup (ds := [_]) (ja_cons (je_op op_add (fun _ => rv_add) (je_var c 2) (je_int)) (ja_nil)) (by show 1 ≤ sizeLine; decide)) (je_slT c (je_var c 4) (jo_some (je_int)) (jo_none) (fun q => ?h21))) (ja_nil)))) (fun q => ⟨a, b, a.length, b.length, fun i j => (D a b i j : Nat), stp a b, (N : Int) + 1, ha, hb, by omega, by omega, by omega, by omega, D_bound h1 h2, D_zero _ _, by have := stp_len a b; omega, by omega, by have := L_small h1 h2; omega, rfl, rfl, rfl⟩)) (je_bl))))))
    (jss_one (js_ret (je_bl) (fun q => ?h25)))
    (jss_one (js_ret (je_and (je_cmp op_eq (fun q => rv_eqI) (je_callB c (c_lenL c) T.f_len (fun _ => rc_lenL) (ds := [_]) (ja_cons (JLc.je c (jlc_filter (j := 5) c (ji_tupF Step.keep (je_ix (o_ixT c) (fun q => rv_ixTc1) (je_var c 4) (je_int)) c) (fun q => ?h26) (fun Y cY i => jt_cmp op_ne (fun q => rv_neS) (je_var cY 5) (je_str)) (fun Y cY i => je_var cY 5))) (ja_nil))) (je_var c 2)) (je_one (je_or (je_cmp op_eq (fun q => rv_eqI) (je_var c 2) (je_int)) (je_one (je_cmp op_isBl (fun q => rv_isB) (je_call c ((D_shows_changes T A).mono (by decide)) (ja_cons (je_var c 0) (ja_cons (je_var c 1) (ja_cons (je_tup (ds := [_, _, _]) (ja_cons (je_var c 2) (ja_cons (je_ix (o_ixT c) (fun q => rv_ixTc1) (je_var c 4) (je_int)) (ja_cons (je_ix (o_ixT c) (fun q => rv_ixTc2) (je_call c ((D_changes_told T A).mono (by decide)) (ja_cons (je_var c 0) (ja_cons (je_var c 0) (ja_nil))) (fun q => ⟨a, a, ha, ha, by omega, by omega, rfl, rfl, rfl⟩)) (je_int)) (ja_nil)))) (by show 3 ≤ sizeLine; decide)) (ja_nil)))) (fun q => ⟨a, b, a.length, a.length, fun i j => (D a a i j : Nat), stp a b, (N : Int), ha, hb, by omega, by omega, by omega, by omega, D_bound h1 h1, D_zero _ _, by have := stp_len a b; omega, by omega, by have := L_small h1 h2; omega, rfl, rfl, rfl⟩)) (je_bl)))))) (fun q => ?h27)))))⟩
  case h1 => -- length
    first | exact ha.line | exact hb.line | exact hr.line
  case h2 => -- length
    first | exact ha.line | exact hb.line | exact hr.line
  case h3 => -- sizes of [number] * 3
    exact ⟨⟨by decide, by decide⟩, by show 1 * 3 ≤ _; rw [sizeLine_eq]; decide⟩
  case h4 => -- shaped
    rfl
  case h5 => -- shaped
    rfl
  case h6 => -- return False
    exact absurd q.2 (by rw [three_eq (by rw [hD]) (by rw [D_end, L_comm, hL]) (by rw [D_rev, hL])]; decide)
  case h7 => -- length
    first | exact ha.line | exact hb.line | exact hr.line
  case h8 => -- length
    first | exact ha.line | exact hb.line | exact hr.line
  case h9 => -- sizes of [ways] * 3
    exact ⟨⟨by decide, by decide⟩, by show 1 * 3 ≤ _; rw [sizeLine_eq]; decide⟩
  case h10 => -- shaped
    rfl
  case h11 => -- shaped
    rfl
  case h12 => -- return False
    exact absurd q.2 (by rw [three_eq (by rw [Ww_end, hW]) (by rw [Ww_end, W_comm, hW]) (by rw [Ww_rev, hW])]; decide)
  case h13 => -- showable
    exact show_ok (by omega)
  case h14 => -- no dict
    rfl
  case h15 => -- depth
    simp [PyData.depth]
  case h16 => -- size
    exact show_len (by omega)
  case h17 => -- showable
    exact show_ok (by omega)
  case h18 => -- no dict
    rfl
  case h19 => -- depth
    simp [PyData.depth]
  case h20 => -- size
    exact show_len (by omega)
  case h21 => -- not whole
    show ¬ (HT.sIx 3 0 (some 1) = 0 ∧ HT.sIx 3 3 none = 3); decide
  case h22 => -- 
    exact List.cons_ne_nil _ _
  case h23 => -- 
    exact List.cons_ne_nil _ _
  case h24 => -- 
    show 1 + 2 ≤ sizeLine; decide
  case h25 => -- return False
    refine absurd q.2 ?_
    have e1 := shown_told a b
    have e2 := shown_more a b a.length b.length (fun i j => (D a b i j : Nat))
    rw [hD] at e1 e2 ⊢
    rw [e1, e2]; simp
  case h26 => -- few items
    have := stp_len a b; omega
  case h27 => -- return len([step for step in told[1] if step != 'keep']) == number and (number == 0 or shows_changes(one, other, (number, told[1], changes_told(one, one)[2])) is False)
    refine ⟨congrArg PyData.bool ?_, rfl⟩
    rw [ne_keep, stp_count, hD, decide_eq_true rfl, Bool.true_and]
    by_cases z : N = 0
    · rw [decide_eq_true (show (N : Int) = 0 by omega)]; rfl
    · rw [shown_self a b (show (0 : Int) < (N : Nat) by omega)]; simp
end K12

/-! ## K12Law5 -/
set_option Elab.async false
set_option linter.all false
set_option maxRecDepth 100000
set_option maxHeartbeats 2000000
/-! k12: plain laws of the rows with letters left out, and of rows that share no letter -/
namespace K12
open PySem PySem.Spec PyProof.Rows L2 JD
theorem emb_sub {a b : List Nat} (h : List.Sublist b a) : 0 < emb a b := by
  induction h with
  | slnil => exact Nat.one_pos
  | @cons b a x h ih =>
    cases b with
    | nil => exact Nat.one_pos
    | cons y b => show 0 < emb a (y :: b) + _; omega
  | @cons_cons b a x h ih =>
    show 0 < emb a (x :: b) + (if x = x then emb a b else 0)
    rw [if_pos rfl]; omega
/-- the letters at the places -/
def atP (a : List Nat) (ps : List Nat) : List Nat := ps.map fun p => a.getD p 0
theorem atP_sub : ∀ (n k : Nat) (a ps : List Nat), a.length = k + n → (∀ p ∈ ps, k ≤ p ∧ p < a.length) → ps.Pairwise (· < ·) → List.Sublist (atP a ps) (a.drop k)
  | 0, k, a, ps, hn, hp, hs => by
    cases ps with
    | nil => exact List.nil_sublist _
    | cons p ps => have := hp p (List.mem_cons_self ..); omega
  | n + 1, k, a, ps, hn, hp, hs => by
    have hk : k < a.length := by omega
    rw [List.drop_eq_getElem_cons hk]
    cases ps with
    | nil => exact List.nil_sublist _
    | cons p ps =>
      have hp0 := hp p (List.mem_cons_self ..)
      rw [List.pairwise_cons] at hs
      by_cases e : p = k
      · subst e
        show List.Sublist (a.getD p 0 :: atP a ps) _
        rw [List.getD_eq_getElem?_getD, List.getElem?_eq_getElem hk]
        exact (atP_sub n (p + 1) a ps (by omega) (fun q hq => ⟨hs.1 q hq, (hp q (List.mem_cons_of_mem _ hq)).2⟩) hs.2).cons_cons _
      · refine (atP_sub n (k + 1) a (p :: ps) (by omega) (fun q hq => ?_) (List.pairwise_cons.mpr hs)).cons _
        rcases List.mem_cons.mp hq with rfl | hq'
        · omega
        · have := hs.1 q hq'; have := hp q hq; omega
theorem atP_emb {a ps : List Nat} (hp : ∀ p ∈ ps, p < a.length) (hs : ps.Pairwise (· < ·)) : 0 < emb a (atP a ps) := emb_sub (by
  have := atP_sub a.length 0 a ps (by omega) (fun p h => ⟨Nat.zero_le _, hp p h⟩) hs
  rwa [List.drop_zero] at this)
/-- the steps that leave the other letters out -/
def outS (ps : List Nat) (i : Nat) : Step := if i ∈ ps then .keep else .out
theorem led_outs (a : List Nat) : ∀ (n i : Nat) (pre ps : List Nat) (v : Nat), i + n = a.length → (∀ p ∈ pre, p < i) → (∀ p ∈ ps, i ≤ p ∧ p < a.length) → ps.Pairwise (· < ·) → v + pre.length = i →
    led a (atP a (pre ++ ps)) ((List.range' i n).map (outS (pre ++ ps))) (i, pre.length, v) = (true, a.length - (pre ++ ps).length)
  | 0, i, pre, ps, v, hn, h1, h2, hs, hv => by
    cases ps with
    | nil =>
      show (decide (i = a.length) && decide (pre.length = (atP a (pre ++ [])).length), v) = _
      unfold atP
      rw [List.append_nil, List.length_map, decide_eq_true rfl, decide_eq_true (by omega)]
      exact congrArg (Prod.mk true) (by omega)
    | cons p ps => have := h2 p (List.mem_cons_self ..); omega
  | n + 1, i, pre, ps, v, hn, h1, h2, hs, hv => by
    rw [List.range'_succ, List.map_cons, led]
    by_cases c : i ∈ ps
    · obtain ⟨p, ps, rfl⟩ : ∃ p qs, ps = p :: qs := by cases ps with | nil => cases c | cons p qs => exact ⟨p, qs, rfl⟩
      rw [List.pairwise_cons] at hs
      have e : p = i := by
        rcases List.mem_cons.mp c with rfl | c'
        · rfl
        · have := hs.1 i c'; have := (h2 p (List.mem_cons_self ..)).1; omega
      subst e
      have hm : outS (pre ++ p :: ps) p = .keep := if_pos (List.mem_append_right _ (List.mem_cons_self ..))
      have hg : (atP a (pre ++ p :: ps)).getD pre.length 0 = a.getD p 0 := by
        unfold atP
        rw [List.map_append, List.getD_eq_getElem?_getD, List.getElem?_append_right (by rw [List.length_map]; exact Nat.le_refl _), List.length_map, Nat.sub_self]; rfl
      have hy : may a (atP a (pre ++ p :: ps)) p pre.length .keep = true := by
        unfold may
        rw [hg, decide_eq_true (show p < a.length by omega), decide_eq_true rfl, decide_eq_true (show pre.length < (atP a (pre ++ p :: ps)).length by unfold atP; rw [List.length_map, List.length_append, List.length_cons]; omega)]; rfl
      rw [hm, if_pos hy]
      have ih := led_outs a n (p + 1) (pre ++ [p]) ps v (by omega) (fun q hq => by
        rcases List.mem_append.mp hq with hq | hq
        · have := h1 q hq; omega
        · rw [List.mem_singleton] at hq; omega) (fun q hq => ⟨hs.1 q hq, (h2 q (List.mem_cons_of_mem _ hq)).2⟩) hs.2 (by rw [List.length_append, List.length_singleton]; omega)
      rw [List.append_assoc, List.singleton_append, List.length_append, List.length_singleton] at ih
      exact ih
    · have hm : outS (pre ++ ps) i = .out := if_neg fun z => by
        rcases List.mem_append.mp z with z | z
        · have := h1 i z; omega
        · exact c z
      have hy : may a (atP a (pre ++ ps)) i pre.length .out = true := decide_eq_true (by omega)
      rw [hm, if_pos hy]
      exact led_outs a n (i + 1) pre ps (v + 1) (by omega) (fun q hq => by have := h1 q hq; omega) (fun q hq => ⟨by
        have := h2 q hq
        have : q ≠ i := fun z => c (z ▸ hq)
        omega, (h2 q hq).2⟩) hs (by omega)
theorem led_out {a ps : List Nat} (hp : ∀ p ∈ ps, p < a.length) (hs : ps.Pairwise (· < ·)) : led a (atP a ps) ((List.range a.length).map (outS ps)) (0, 0, 0) = (true, a.length - ps.length) := by
  have := led_outs a a.length 0 [] ps 0 (by omega) (fun _ h => by cases h) (fun p h => ⟨Nat.zero_le _, hp p h⟩) hs rfl
  rw [List.range_eq_range']
  exact this
theorem out_len {ps : List Nat} {n : Nat} (hp : ∀ p ∈ ps, p < n) (hs : ps.Pairwise (· < ·)) : ps.length ≤ n := by
  have := (atP_sub n 0 (List.replicate n 0) ps (by rw [List.length_replicate]; omega) (fun p h => ⟨Nat.zero_le _, by rw [List.length_replicate]; exact hp p h⟩) hs).length_le
  unfold atP at this
  rw [List.length_map, List.drop_zero, List.length_replicate] at this
  exact this
/-- the places in order -/
def ascI (l : List Int) : List Int := l.mergeSort fun x y => decide (x ≤ y)
theorem ascI_perm (l : List Int) : (ascI l).Perm l := List.mergeSort_perm ..
theorem ascI_le (l : List Int) : (ascI l).Pairwise (· ≤ ·) := by
  have := List.pairwise_mergeSort (le := fun x y : Int => decide (x ≤ y)) (fun x y z h1 h2 => decide_eq_true (by have := of_decide_eq_true h1; have := of_decide_eq_true h2; omega)) (fun x y => by
    by_cases c : x ≤ y
    · rw [decide_eq_true c]; rfl
    · rw [decide_eq_true (show y ≤ x by omega), Bool.or_true]) l
  exact this.imp fun h => of_decide_eq_true h
end K12

/-! ## K12Law6 -/
set_option Elab.async false
set_option linter.all false
set_option maxRecDepth 100000
set_option maxHeartbeats 2000000
/-! k12: what _law_is_left_out_right draws -/
namespace K12
open PySem PySem.Spec PyProof.Rows L2 JD
abbrev abc : List Nat := [97, 98, 99]
abbrev xyz : List Nat := [120, 121, 122]
theorem abc_is : PyData.str "abc" = st abc := congrArg PyData.str (by decide +kernel)
theorem xyz_is : PyData.str "xyz" = st xyz := congrArg PyData.str (by decide +kernel)
theorem row_abc {a : List Nat} (h : a.length ≤ 400) (hc : ∀ c ∈ a, c ∈ abc) : Row a := ⟨h, fun c hm => by
  have := hc c hm
  simp only [List.mem_cons, List.not_mem_nil, or_false] at this
  omega⟩
theorem row_xyz {a : List Nat} (h : a.length ≤ 400) (hc : ∀ c ∈ a, c ∈ xyz) : Row a := ⟨h, fun c hm => by
  have := hc c hm
  simp only [List.mem_cons, List.not_mem_nil, or_false] at this
  omega⟩
def loL (π : Pot) : List Nat := cutN abc none (some (1 + takeV π 3))
theorem loL_in (π : Pot) : loL π ≠ [] ∧ (loL π).length ≤ 3 ∧ ∀ c ∈ loL π, c ∈ abc := by
  have h := take_in π (n := 3) (by decide)
  unfold loL
  have e : takeV π 3 = 0 ∨ takeV π 3 = 1 ∨ takeV π 3 = 2 := by omega
  rcases e with e | e | e <;> rw [e] <;> decide +kernel
def loRow (π : Pot) : List Nat := rowV (takeP π 3) (loL π) 1 12
def loP2 (π : Pot) : Pot := rowP (takeP π 3) (loL π) 1 12
def loK (π : Pot) : Nat := (takeV (loP2 π) ((loRow π).length + 1 : Nat)).toNat
def loP3 (π : Pot) : Pot := takeP (loP2 π) ((loRow π).length + 1 : Nat)
def loXs (n : Nat) : List Int := (List.range n).map fun i => (0 : Int) + (i : Nat)
def loGot (π : Pot) : List Int × List Int × Pot := someS (loK π) (loXs (loRow π).length, [], loP3 π)
def loNs (π : Pot) : List Nat := (ascI (loGot π).2.1).map Int.toNat
def loRest (π : Pot) : List Nat := atP (loRow π) (loNs π)
def loP4 (π : Pot) : Pot := (loGot π).2.2
def loAh (π : Pot) : List Nat := rowV (loP4 π) abc 0 9
def loP5 (π : Pot) : Pot := rowP (loP4 π) abc 0 9
def loBe (π : Pot) : List Nat := rowV (loP5 π) abc 0 9
def loP6 (π : Pot) : Pot := rowP (loP5 π) abc 0 9
theorem loXs_len (n : Nat) : (loXs n).length = n := by unfold loXs; rw [List.length_map, List.length_range]
theorem loXs_D (n : Nat) : rgD 0 (n : Nat) = (loXs n).map PyData.int := by
  unfold rgD loXs
  rw [List.map_map, show ((n : Int) - 0).toNat = n by omega]; rfl
theorem loXs_mem {n : Nat} {x : Int} (h : x ∈ loXs n) : 0 ≤ x ∧ x < n := by
  unfold loXs at h
  obtain ⟨i, hi, rfl⟩ := List.mem_map.mp h
  have := List.mem_range.mp hi
  omega
theorem loXs_nodup (n : Nat) : (loXs n).Nodup := by
  unfold loXs
  refine List.Pairwise.map _ (R := fun a b => a ≠ b) (fun a b h => by omega) ?_
  exact List.nodup_range
structure Lo (k : Nat) (π : Pot) : Prop where
  row : Row (loRow π)
  len0 : 1 ≤ (loRow π).length
  len : (loRow π).length ≤ 12
  p1 : PotN (k + 1) (takeP π 3)
  p2 : PotN (k + 14) (loP2 π)
  kl : loK π ≤ (loRow π).length
  p3 : PotN (k + 15) (loP3 π)
  p4 : PotN (k + 27) (loP4 π)
  p5 : PotN (k + 37) (loP5 π)
  p6 : PotN (k + 47) (loP6 π)
  ns : ∀ p ∈ loNs π, p < (loRow π).length
  asc : (loNs π).Pairwise (· < ·)
  nl : (loNs π).length = loK π
  nsI : (loNs π).map (fun n => ((n : Nat) : Int)) = ascI (loGot π).2.1
  rest : Row (loRest π)
  ahl : (loAh π).length ≤ 9
  bel : (loBe π).length ≤ 9
  ah : ∀ c ∈ loAh π, c ∈ abc
  be : ∀ c ∈ loBe π, c ∈ abc
  ro : ∀ c ∈ loRow π, c ∈ abc
theorem lo_facts {k : Nat} {π : Pot} (h : PotN k π) : Lo k π := by
  obtain ⟨l1, l2, l3⟩ := loL_in π
  have hN := rowN_in (π := takeP π 3) (lo := 1) (hi := 12) (by decide) (by decide)
  have hlen : (loRow π).length = rowN (takeP π 3) 1 12 := rowV_len ..
  have ro : ∀ c ∈ loRow π, c ∈ abc := fun c hc => l3 c (rowV_in l1 c hc)
  have p1 : PotN (k + 1) (takeP π 3) := h.take 3
  have p2 : PotN (k + 14) (loP2 π) := (rowP_N p1 (by decide) (by decide)).mono (by show k + 1 + 1 + 12 ≤ _; omega)
  have hk := take_in (loP2 π) (n := ((loRow π).length + 1 : Nat)) (by omega)
  have kl : loK π ≤ (loRow π).length := by unfold loK; omega
  have p3 : PotN (k + 15) (loP3 π) := p2.take _
  obtain ⟨s1, s2, s3, s4⟩ := someS_ok (loXs (loRow π).length) (loP3 π) p3 (loK π) (by rw [loXs_len]; exact kl)
  have p4 : PotN (k + 27) (loP4 π) := s4.mono (by omega)
  have p5 : PotN (k + 37) (loP5 π) := (rowP_N p4 (by decide) (by decide)).mono (by show k + 27 + 1 + 9 ≤ _; omega)
  have p6 : PotN (k + 47) (loP6 π) := (rowP_N p5 (by decide) (by decide)).mono (by show k + 37 + 1 + 9 ≤ _; omega)
  have nd : (loGot π).2.1.Nodup := by
    have := (s3.nodup_iff).mpr (loXs_nodup _)
    exact (List.nodup_append.mp this).1
  have hin : ∀ x ∈ (loGot π).2.1, 0 ≤ x ∧ x < (loRow π).length := fun x hx => loXs_mem (s3.mem_iff.mp (List.mem_append_left _ hx))
  have hin' : ∀ x ∈ ascI (loGot π).2.1, 0 ≤ x ∧ x < (loRow π).length := fun x hx => hin x ((ascI_perm _).mem_iff.mp hx)
  have nd' : (ascI (loGot π).2.1).Nodup := ((ascI_perm _).nodup_iff).mpr nd
  have lt : (ascI (loGot π).2.1).Pairwise (· < ·) := by
    refine ((ascI_le _).and nd').imp fun {a b} h => ?_
    have h1 : a ≤ b := h.1
    have h2 : a ≠ b := h.2
    show a < b
    omega
  have asc : (loNs π).Pairwise (· < ·) := by
    unfold loNs
    rw [List.pairwise_map]
    refine lt.imp_of_mem fun {a b} ha hb h => ?_
    have h' : a < b := h
    have := hin' a ha
    have := hin' b hb
    omega
  have ns : ∀ p ∈ loNs π, p < (loRow π).length := fun p hp => by
    obtain ⟨x, hx, rfl⟩ := List.mem_map.mp hp
    have := hin' x hx; omega
  have row : Row (loRow π) := row_abc (by omega) ro
  exact { row := row, len0 := by omega, len := by omega, p1 := p1, p2 := p2, kl := kl, p3 := p3, p4 := p4, p5 := p5, p6 := p6, ns := ns, asc := asc,
          nl := by unfold loNs; rw [List.length_map, (ascI_perm _).length_eq]; exact s2
          nsI := by
            unfold loNs
            rw [List.map_map]
            conv => rhs; rw [← List.map_id (ascI (loGot π).2.1)]
            refine List.map_congr_left fun x hx => ?_
            have := hin' x hx
            show ((x.toNat : Nat) : Int) = x
            omega
          rest := by
            refine row_abc ?_ fun c hc => ?_
            · unfold loRest atP; rw [List.length_map]
              have := out_len ns asc
              omega
            · unfold loRest atP at hc
              obtain ⟨p, hp, rfl⟩ := List.mem_map.mp hc
              rw [List.getD_eq_getElem?_getD, List.getElem?_eq_getElem (ns p hp)]
              exact ro _ (List.getElem_mem _)
          ahl := by unfold loAh; rw [rowV_len]; have := rowN_in (π := loP4 π) (lo := 0) (hi := 9) (by decide) (by decide); omega
          bel := by unfold loBe; rw [rowV_len]; have := rowN_in (π := loP5 π) (lo := 0) (hi := 9) (by decide) (by decide); omega
          ah := fun c hc => rowV_in (by decide) c hc
          be := fun c hc => rowV_in (by decide) c hc
          ro := ro }
end K12

/-! ## K12Law7 -/
set_option Elab.async false
set_option linter.all false
set_option maxRecDepth 100000
set_option maxHeartbeats 2000000
/-! k12: the ends of a piece, as a dict; the rows ahead and behind -/
namespace K12
open PySem PySem.Spec PyProof.Rows L2 JD
/-- places and what is told of each, as pairs -/
def tab (n : Nat) (f : Nat → Int) : List (Int × Int) := (List.range n).map fun (i : Nat) => ((i : Int), f i)
theorem near_all {p r : List Nat} {v : Int} (h : ∀ i, i ≤ r.length → (En p r p.length i : Int) ≤ v) : near p r v = tab (r.length + 1) fun i => (En p r p.length i : Int) := by
  unfold near tab
  rw [List.filter_eq_self.mpr fun i hi => decide_eq_true (h i (by have := List.mem_range.mp hi; omega))]
theorem tab_succ (n : Nat) (f : Nat → Int) : tab (n + 1) f = tab n f ++ [((n : Int), f n)] := by
  unfold tab; rw [List.range_succ, List.map_append]; rfl
theorem merge_tab (f : Nat → Int) : ∀ n, mergeK [] ((tab n f).map pairK) = (tab n f).map pairK
  | 0 => rfl
  | n + 1 => by
    rw [tab_succ, List.map_append]
    unfold mergeK
    rw [List.foldl_append]
    have ih := merge_tab f n
    unfold mergeK at ih
    rw [ih]
    show putK ((tab n f).map pairK) (.inl (n : Int)) (.int (f n)) = _
    unfold putK
    rw [if_neg]
    · rfl
    · intro hh
      obtain ⟨kv, hm, he⟩ := List.any_eq_true.mp hh
      obtain ⟨xy, hxy, rfl⟩ := List.mem_map.mp hm
      unfold tab at hxy
      obtain ⟨i, hi, rfl⟩ := List.mem_map.mp hxy
      have e : (Sum.inl ((i : Nat) : Int) : Key) = Sum.inl (n : Int) := of_decide_eq_true he
      have := Sum.inl.inj e
      have := List.mem_range.mp hi
      omega
theorem val_tab (f : Nat → Int) : ∀ n i, i < n → valV ((tab n f).map pairK) (.inl ((i : Nat) : Int)) = some (.int (f i)) := by
  intro n i hi
  unfold valV
  have key : ((tab n f).map pairK).find? (fun kv => decide (kv.1 = Sum.inl ((i : Nat) : Int))) = some (pairK ((i : Int), f i)) := by
    induction n with
    | zero => omega
    | succ n ih =>
      rw [tab_succ, List.map_append, List.find?_append]
      by_cases c : i < n
      · rw [ih c]; rfl
      · have e : i = n := by omega
        subst e
        have : ((tab i f).map pairK).find? (fun kv => decide (kv.1 = Sum.inl ((i : Nat) : Int))) = none := by
          rw [List.find?_eq_none]
          intro kv hm
          obtain ⟨xy, hxy, rfl⟩ := List.mem_map.mp hm
          unfold tab at hxy
          obtain ⟨j, hj, rfl⟩ := List.mem_map.mp hxy
          have := List.mem_range.mp hj
          intro he
          have e : (Sum.inl ((j : Nat) : Int) : Key) = Sum.inl (i : Int) := of_decide_eq_true he
          have := Sum.inl.inj e
          omega
        rw [this, Option.none_or]
        exact List.find?_cons_of_pos (decide_eq_true rfl)
  rw [key]; rfl
theorem keys_tab (f : Nat → Int) (n : Nat) : ((tab n f).map pairK).map (·.1) = (loXs n).map Sum.inl := by
  unfold tab loXs
  rw [List.map_map, List.map_map, List.map_map]
  refine List.map_congr_left fun i _ => ?_
  show (Sum.inl ((i : Nat) : Int) : Key) = Sum.inl (0 + ((i : Nat) : Int))
  rw [Int.zero_add]
theorem loXs_le (n : Nat) : (loXs n).Pairwise (· ≤ ·) := by
  unfold loXs
  rw [List.pairwise_map]
  exact List.pairwise_lt_range.imp fun {a b} h => by have : a < b := h; omega
/-! ### facts of the ends -/
theorem En_le {p r : List Nat} (i : Nat) : En p r p.length i ≤ p.length := by
  have := E_len (p.take p.length).reverse (r.take i).reverse
  rw [List.length_reverse, List.take_length] at this
  unfold En; rwa [List.take_length]
theorem En_next {p r : List Nat} {i : Nat} (hi : i < r.length) : En p r p.length (i + 1) ≤ En p r p.length i + 1 ∧ En p r p.length i ≤ En p r p.length (i + 1) + 1 := by
  unfold En
  rw [take_rev hi]
  exact E_step _ _ _
theorem En_last (p q r : List Nat) : En p (q ++ r) p.length (q ++ r).length ≤ L p r := by
  unfold En
  rw [List.take_length, List.take_length, List.reverse_append]
  have := E_le_L _ p.reverse r.reverse q.reverse (Nat.le_refl _)
  rwa [L_rev] at this
/-! ### ahead and behind -/
theorem Lo.emb {k : Nat} {π : Pot} (h : Lo k π) : 0 < emb (loRow π) (loRest π) := atP_emb h.ns h.asc
theorem Lo.rl {k : Nat} {π : Pot} (h : Lo k π) : (loRest π).length = loK π := by unfold loRest atP; rw [List.length_map, h.nl]
theorem Lo.L {k : Nat} {π : Pot} (h : Lo k π) : L (loRow π) (loRest π) = (loRow π).length - (loRest π).length ∧ W (loRow π) (loRest π) = K12.emb (loRow π) (loRest π) := left_out h.emb
theorem Lo.emb3 {k : Nat} {π : Pot} (h : Lo k π) : K12.emb (loRow π) (loRest π) ≤ K12.emb (loAh π ++ loRow π ++ loBe π) (loAh π ++ loRest π ++ loBe π) :=
  Nat.le_trans (emb_fronts (loAh π) _ _) (emb_backs (loBe π) _ _)
theorem Lo.L3 {k : Nat} {π : Pot} (h : Lo k π) : K12.L (loAh π ++ loRow π ++ loBe π) (loAh π ++ loRest π ++ loBe π) = (loRow π).length - (loRest π).length ∧ K12.emb (loRow π) (loRest π) ≤ W (loAh π ++ loRow π ++ loBe π) (loAh π ++ loRest π ++ loBe π) := by
  have h0 := h.emb
  have h3 := h.emb3
  obtain ⟨e1, e2⟩ := left_out (a := loAh π ++ loRow π ++ loBe π) (b := loAh π ++ loRest π ++ loBe π) (by omega)
  rw [e1, e2]
  refine ⟨?_, h3⟩
  simp only [List.length_append]
  omega
theorem row_app {a b : List Nat} (ha : Row a) (hb : Row b) (hl : a.length + b.length ≤ 400) : Row (a ++ b) := ⟨by rw [List.length_append]; exact hl, fun c hc => by
  rcases List.mem_append.mp hc with h | h
  · exact ha.2 c h
  · exact hb.2 c h⟩
end K12

/-! ## K12Law8 -/
set_option Elab.async false
set_option linter.all false
set_option maxRecDepth 100000
set_option maxHeartbeats 2000000
/-! k12: what _law_is_left_out_right says -/
namespace K12
open PySem PySem.Spec PyProof.Rows L2 JD
def loEn (π : Pot) (i : Nat) : Nat := En (loRest π) (loAh π ++ loRow π) (loRest π).length i
theorem lo_args (π : Pot) : [Ag.pot, .d (.list (rgD 0 ((loRow π).length : Nat))), .d (.int (takeV (loP2 π) ((loRow π).length + 1 : Nat)))] = [Ag.pot, .d (.list ((loXs (loRow π).length).map .int)), .d (.int ((loK π : Nat) : Int))] := by
  have h := take_in (loP2 π) (n := ((loRow π).length + 1 : Nat)) (by omega)
  rw [loXs_D, show takeV (loP2 π) ((loRow π).length + 1 : Nat) = ((loK π : Nat) : Int) by unfold loK; omega]
theorem lo_args2 {k : Nat} {π : Pot} (F : Lo k π) : [Ag.d (st (loRow π)), .d (st (loRest π)), .d (.int (((loRow π).length : Nat) - ((loRest π).length : Nat))), .d (.int (K12.emb (loRow π) (loRest π) : Nat))] = [Ag.d (st (loRow π)), .d (st (loRest π)), .d (.int (((loRow π).length - (loRest π).length : Nat) : Int)), .d (.int (K12.emb (loRow π) (loRest π) : Nat))] := by
  have := F.rl
  have := F.kl
  rw [show (((loRow π).length : Nat) : Int) - ((loRest π).length : Nat) = (((loRow π).length - (loRest π).length : Nat) : Int) by omega]
theorem lo_args3 (π : Pot) : [Ag.d (st (loRow π)), .d (.list ((loNs π).map fun (n : Nat) => .int ((n : Nat) : Int)))] = [Ag.d (st (loRow π)), .d (.list (((loNs π).map fun (n : Nat) => ((n : Nat) : Int)).map .int))] := by
  rw [List.map_map]; rfl
theorem Lo.r2 {k : Nat} {π : Pot} (F : Lo k π) : Row (loAh π ++ loRow π) := row_app (row_abc (by have := F.ahl; omega) F.ah) F.row (by have := F.ahl; have := F.len; omega)
theorem Lo.l2 {k : Nat} {π : Pot} (F : Lo k π) : (loAh π ++ loRow π).length ≤ 21 := by rw [List.length_append]; have := F.ahl; have := F.len; omega
theorem Lo.rs {k : Nat} {π : Pot} (F : Lo k π) : (loRest π).length ≤ 12 := by have := F.rl; have := F.kl; have := F.len; omega
theorem Lo.r3 {k : Nat} {π : Pot} (F : Lo k π) : Row (loAh π ++ loRow π ++ loBe π) := row_app F.r2 (row_abc (by have := F.bel; omega) F.be) (by have := F.bel; have := F.l2; omega)
theorem Lo.t3 {k : Nat} {π : Pot} (F : Lo k π) : Row (loAh π ++ loRest π ++ loBe π) := row_app (row_app (row_abc (by have := F.ahl; omega) F.ah) F.rest (by have := F.ahl; have := F.rs; omega)) (row_abc (by have := F.bel; omega) F.be) (by rw [List.length_append]; have := F.ahl; have := F.rs; have := F.bel; omega)
theorem Lo.l3 {k : Nat} {π : Pot} (F : Lo k π) : (loAh π ++ loRow π ++ loBe π).length ≤ 60 ∧ (loAh π ++ loRest π ++ loBe π).length ≤ 60 := by
  simp only [List.length_append]
  have := F.ahl; have := F.rs; have := F.bel; have := F.len
  omega
theorem lo_near {k : Nat} {π : Pot} (F : Lo k π) : PyData.tuple ((tab ((loAh π ++ loRow π).length + 1) fun i => (loEn π i : Int)).map JD.pairD) = .tuple ((near (loRest π) (loAh π ++ loRow π) 60).map JD.pairD) := by
  rw [near_all fun i _ => by have := En_le (p := loRest π) (r := loAh π ++ loRow π) i; have := F.rs; omega]; rfl
theorem lo_get {π : Pot} {n i : Nat} {z : Int} (h : i < n) (hz : z = (i : Nat)) : valV (mergeK [] ((tab n fun i => (loEn π i : Int)).map JD.pairK)) (.inl z) = some (.int (loEn π i : Nat)) := by
  rw [hz, merge_tab, val_tab _ _ _ h]
theorem lo_keys (π : Pot) {n : Nat} (h : n < 64) : (mergeK [] ((tab n fun i => (loEn π i : Int)).map JD.pairK)).map (·.1) = (loXs n).map Sum.inl ∧ (loXs n).length < 64 ∧ (loXs n).Pairwise (· ≤ ·) :=
  ⟨by rw [merge_tab, keys_tab], by rw [loXs_len]; exact h, loXs_le n⟩
theorem lo_places {k : Nat} {π : Pot} (F : Lo k π) : (ascI (loGot π).2.1).map PyData.int = (loNs π).map fun (n : Nat) => .int ((n : Nat) : Int) := by
  rw [← F.nsI, List.map_map]; rfl
theorem lo_steps (ns : List Nat) (n : Nat) : PyData.tuple ((List.range n).map fun (i : Nat) => if ((ns.map fun (n : Nat) => ((n : Nat) : Int)).map PyData.int).any (fun e => eqD e (.int (i : Int))) = true then .str "keep" else .str "out") = .tuple (((List.range n).map (outS ns)).map Step.d) := by
  refine congrArg PyData.tuple (Eq.trans ?_ (List.map_map ..).symm)
  refine List.map_congr_left fun i _ => ?_
  show _ = (outS ns i).d
  unfold outS
  have e : (((ns.map fun (n : Nat) => ((n : Nat) : Int)).map PyData.int).any fun e => eqD e (.int (i : Int))) = decide (i ∈ ns) := by
    rw [List.map_map, List.any_map, Bool.eq_iff_iff, List.any_eq_true, decide_eq_true_iff]
    constructor
    · rintro ⟨x, hx, he⟩
      have : ((x : Nat) : Int) = (i : Int) := of_decide_eq_true he
      rw [show i = x by omega]; exact hx
    · intro h
      exact ⟨i, h, decide_eq_true (p := ((i : Nat) : Int) = (i : Int)) rfl⟩
  rw [e]
  by_cases c : i ∈ ns
  · rw [decide_eq_true c, if_pos rfl, if_pos c]; rfl
  · rw [decide_eq_false c, if_neg (by decide), if_neg c]; rfl
theorem lo_at {k : Nat} {π : Pot} (F : Lo k π) {i : Nat} (h : i < (loNs π).length) : (loNs π).getD i 0 < (loRow π).length := by
  rw [List.getD_eq_getElem?_getD, List.getElem?_eq_getElem h]
  exact F.ns _ (List.getElem_mem h)
theorem lo_join (a ns : List Nat) : ((List.range ns.length).map fun i => [a.getD (ns.getD i 0) 0]).flatten = atP a ns := by
  unfold atP
  have e : ns.map (fun p => a.getD p 0) = (List.range ns.length).map fun i => a.getD (ns.getD i 0) 0 := by
    refine List.ext_getElem? fun j => ?_
    rw [List.getElem?_map, List.getElem?_map]
    by_cases c : j < ns.length
    · rw [List.getElem?_range c, List.getElem?_eq_getElem c, Option.map_some, Option.map_some, List.getD_eq_getElem?_getD (l := ns), List.getElem?_eq_getElem c]; rfl
    · rw [List.getElem?_eq_none (by omega), List.getElem?_eq_none (by rw [List.length_range]; omega)]; rfl
  rw [e]
  generalize List.range ns.length = l
  induction l with
  | nil => rfl
  | cons x l ih => rw [List.map_cons, List.map_cons, List.flatten_cons, ih]; rfl
theorem lo_shown {k : Nat} {π : Pot} (F : Lo k π) : shown (loRow π) (loRest π) (loRow π).length (loRest π).length (fun i j => (D (loRow π) (loRest π) i j : Nat)) ((List.range (loRow π).length).map (outS (loNs π))) (((loRow π).length : Nat) - ((loRest π).length : Nat)) = true := by
  unfold shown
  have e : led (loRow π) (loRest π) ((List.range (loRow π).length).map (outS (loNs π))) (0, 0, 0) = (true, (loRow π).length - (loNs π).length) := led_out F.ns F.asc
  have := F.rl
  have := F.kl
  have := F.nl
  have e2 : ((D (loRow π) (loRest π) (loRow π).length (loRest π).length : Nat) : Int) = ((loRow π).length : Nat) - ((loRest π).length : Nat) := by rw [D_end, F.L.1]; omega
  rw [e, priced_D]
  show (true && decide ((((loRow π).length - (loNs π).length : Nat) : Int) = ((loRow π).length : Nat) - ((loRest π).length : Nat)) && (decide ((loRow π).length = (loRow π).length) && decide ((loRest π).length = (loRest π).length)) && (true && decide (((D (loRow π) (loRest π) (loRow π).length (loRest π).length : Nat) : Int) = ((loRow π).length : Nat) - ((loRest π).length : Nat)))) = true
  rw [e2, decide_eq_true (show (((loRow π).length - (loNs π).length : Nat) : Int) = ((loRow π).length : Nat) - ((loRest π).length : Nat) by omega)]
  simp
theorem shaped_ints (ps : List Int) : SeqAt.shaped (.list (ps.map .int)) = true := by
  unfold SeqAt.shaped
  rw [Bool.and_eq_true]
  constructor
  · have h : ∀ l : List Int, PyData.canLayAll0 (l.map .int) = true := fun l => by
      induction l with
      | nil => rfl
      | cons i l ih => rw [List.map_cons, PyData.canLayAll0, ih]; rfl
    rw [PyData.canLay0]
    exact h _
  · have h : ∀ l : List Int, PyData.depthAll (l.map .int) ≤ 1 := fun l => by
      induction l with
      | nil => simp [PyData.depthAll]
      | cons i l ih =>
        rw [List.map_cons]
        simp only [PyData.depthAll, PyData.depth] at ih ⊢
        omega
    refine decide_eq_true ?_
    rw [PyData.depth]
    have := h ps
    omega
theorem eqv_ints (ps : List Int) : (PyData.list (ps.map .int)).eqv (.list (ps.map .int)) = true := by
  rw [PyData.eqv]
  induction ps with
  | nil => simp [PyData.eqvAll]
  | cons i ps ih =>
    rw [List.map_cons, PyData.eqvAll, ih]
    simp [PyData.eqv]
theorem lo_z1 {k : Nat} {π : Pot} (F : Lo k π) : (!decide (((D (loAh π ++ loRow π ++ loBe π) (loAh π ++ loRest π ++ loBe π) (loAh π ++ loRow π ++ loBe π).length (loAh π ++ loRest π ++ loBe π).length : Nat) : Int) = ((loRow π).length : Nat) - ((loRest π).length : Nat)) ||
    decide (((Ww (loAh π ++ loRow π ++ loBe π) (loAh π ++ loRest π ++ loBe π) (loAh π ++ loRow π ++ loBe π).length (loAh π ++ loRest π ++ loBe π).length : Nat) : Int) < (emb (loRow π) (loRest π) : Nat))) = false := by
  have := F.rl
  have := F.kl
  have h := F.L3
  rw [D_end, Ww_end, h.1, decide_eq_true (show (((loRow π).length - (loRest π).length : Nat) : Int) = ((loRow π).length : Nat) - ((loRest π).length : Nat) by omega), decide_eq_false (by have := h.2; omega)]
  rfl
theorem lo_z2 {k : Nat} {π : Pot} (F : Lo k π) : (!(PyData.list (List.map PyData.int (loXs ((loAh π ++ loRow π).length + 1)))).eqv (PyData.list (rgD 0 (((loAh π ++ loRow π).length : Nat) + 1))) ||
      (decide ((((loRow π).length : Nat) : Int) - ((loRest π).length : Nat) < (loEn π (loAh π ++ loRow π).length : Nat)) || !decide (((loEn π 0 : Nat) : Int) = ((loRest π).length : Nat)))) = false := by
  have := F.rl
  have := F.kl
  have e0 : loEn π 0 = (loRest π).length := En_n0 _ _ (Nat.le_refl _)
  have e1 : loEn π (loAh π ++ loRow π).length ≤ (loRow π).length - (loRest π).length := by
    have := En_last (loRest π) (loAh π) (loRow π)
    rw [L_comm, F.L.1] at this
    exact this
  have e2 : rgD 0 (((loAh π ++ loRow π).length : Nat) + 1) = (loXs ((loAh π ++ loRow π).length + 1)).map PyData.int := loXs_D _
  rw [e2, eqv_ints, e0, decide_eq_true rfl, decide_eq_false (by omega)]
  rfl
theorem lo_end {k : Nat} {π : Pot} (F : Lo k π) : ((List.range (((loAh π ++ loRow π).length : Nat) : Int).toNat).all fun i => decide ((if ((loEn π (i + 1) : Nat) : Int) - (loEn π i : Nat) < 0 then -(((loEn π (i + 1) : Nat) : Int) - (loEn π i : Nat)) else ((loEn π (i + 1) : Nat) : Int) - (loEn π i : Nat)) ≤ 1)) = true := by
  rw [List.all_eq_true]
  intro i hi
  have hi' := List.mem_range.mp hi
  have := En_next (p := loRest π) (r := loAh π ++ loRow π) (i := i) (by omega)
  refine decide_eq_true ?_
  unfold loEn
  split <;> omega
theorem o_sortedI {G : Glb} {k : Nat} {N : List Str} {sc : Scope} {B : Bool} {X : Cx} (c : Cz G k N sc B X) : CallR X (.builtin "sorted") (rSortedI G.K) := toK (P := fun K => CallR X (.builtin "sorted") (rSortedI K)) c cr_sortedI
end K12

/-! ## K12W9 -/
set_option Elab.async false
set_option linter.all false
set_option maxRecDepth 100000
set_option maxHeartbeats 4000000
namespace K12
open PySem PySem.Spec PyProof.Rows L2 JD

/-! ### _law_is_left_out_right -/
theorem sc__law_is_left_out_right : FnScope ["pot", "row", "places", "rest", "at", "number", "ways", "steps", "ahead", "behind", "ends"] ["pot"] (defScope sUlawUisUleftUoutUright) := ⟨rfl, rfl, rfl, by decide +kernel, rfl, by decide +kernel, by decide +kernel⟩
abbrev R__law_is_left_out_right : Says := fun π as d π' => ∃ (k : Nat), k ≤ 7000 ∧ PotN k π ∧ as = [.pot] ∧ d = .bool true ∧ π' = loP6 π
theorem D__law_is_left_out_right {G : Glb} (T : Fx G) (A : As G) : Df G 7 "_law_is_left_out_right" ["pot"] R__law_is_left_out_right := by
  refine mkDf A.a__law_is_left_out_right sc__law_is_left_out_right (fun π as d π' h => by obtain ⟨k, hk, hp, rfl, rfl, rfl⟩ := h; rfl) (fun _ _ _ _ _ _ us hl => match us, hl with | [_], _ => rfl) fun X c π as d π' h => ?_
  obtain ⟨k, hk, hp, rfl, rfl, rfl⟩ := h
  have F := lo_facts hp
  refine' ⟨_, jss_cons (js_asg c 1 (je_call c ((D__law_row T A).mono (by decide)) (ja_pot c 0 (ja_cons (je_slS (JE.is je_str (fun _ => abc_is)) (jo_none) (jo_some (je_op op_add (fun _ => rv_add) (je_int) (je_call c ((D__law_take T A).mono (by decide)) (ja_pot c 0 (ja_cons (je_int) (ja_nil))) (fun q => ⟨3, hp.mono (by omega), by decide, by decide, rfl, rfl, rfl⟩)))) (fun q => ?h1)) (ja_cons (je_int) (ja_cons (je_int) (ja_nil))))) (fun q => ⟨loL π, 1, 12, F.p1.mono (by omega), (loL_in π).1, by have := (loL_in π).2.1; omega, by decide, by decide, by decide, rfl, show st (loRow π) = _ from rfl, show loP2 π = _ from rfl⟩))) <|
    jss_cons (js_asg c 2 (JE.is (d2 := .list ((loNs π).map fun (n : Nat) => .int ((n : Nat) : Int))) (JL.je (jl_callB c (o_sortedI c) T.f_sorted (fun q => rc_sorted ?h5 ?h6) (ds := [_]) (ja_cons (je_call c ((D__law_some T A).mono (by decide)) (ja_pot c 0 (ja_cons (JL.je (jl_listRg c (je_callB c call_len_str T.f_len (fun q => rc_lenS ?h2) (ds := [_]) (ja_cons (je_var c 1) (ja_nil))) (fun q => ?h3) T.f_range T.f_list)) (ja_cons (je_call c ((D__law_take T A).mono (by decide)) (ja_pot c 0 (ja_cons (je_op op_add (fun _ => rv_add) (je_callB c call_len_str T.f_len (fun q => rc_lenS ?h4) (ds := [_]) (ja_cons (je_var c 1) (ja_nil))) (je_int)) (ja_nil))) (fun q => ⟨((loRow π).length + 1 : Nat), F.p2.mono (by omega), by omega, by have := F.len; omega, rfl, rfl, rfl⟩)) (ja_nil)))) (fun q => ⟨loXs (loRow π).length, loK π, F.p3.mono (by omega), by rw [loXs_len]; have := F.len; omega, by rw [loXs_len]; exact F.kl, lo_args π, rfl, rfl⟩)) (ja_nil)))) (fun q => ?h7))) <|
    jss_cons (js_asg c 3 (JE.is (d2 := st (loRest π)) (je_joinF (JLc.je c (jlc_map (j := 4) c (ji_listF 0 (je_var c 2) c) (fun q => ?h11) (fun Y cY i => je_ix ix_str (fun q => rv_ixSN (i := (loNs π).getD i 0) ?h8 ?h9 ?h10) (je_var cY 1) (je_var cY 4)))) (fun q => ?h12) c) (fun q => ?h13))) <|
    jss_cons (js_par_dd c 5 6 (je_callTy c call_int1 T.f_int (fun _ => rc_int) (ds := [_]) (ja_cons (je_op op_sub (fun _ => rv_sub) (je_callB c call_len_str T.f_len (fun q => rc_lenS ?h14) (ds := [_]) (ja_cons (je_var c 1) (ja_nil))) (je_callB c call_len_str T.f_len (fun q => rc_lenS ?h15) (ds := [_]) (ja_cons (je_var c 3) (ja_nil)))) (ja_nil))) (je_call c ((D__law_found T A).mono (by decide)) (ja_cons (je_var c 1) (ja_cons (je_var c 3) (ja_nil))) (fun q => ⟨loRow π, loRest π, by have := F.len; omega, by have := F.rl; have := F.kl; have := F.len; omega, rfl, rfl, rfl⟩)) (fun env h => by unfold swappedStores Env.blockKind Env.kindOf; rw [h]; rfl)) <|
    jss_if (jt_not (jt_val (je_call c ((D__law_is_told T A).mono (by decide)) (ja_cons (je_var c 1) (ja_cons (je_var c 3) (ja_cons (je_var c 5) (ja_cons (je_var c 6) (ja_nil))))) (fun q => ⟨loRow π, loRest π, (loRow π).length - (loRest π).length, K12.emb (loRow π) (loRest π), F.row, F.rest, by have := F.len; omega, by have := F.rl; have := F.kl; have := F.len; omega, F.L.1, F.L.2, lo_args2 F, rfl, rfl⟩))))
    (jss_one (js_ret (je_bl) (fun q => ?h16)))
    (jss_cons (js_asg c 7 (JE.is (d2 := .tuple (((List.range (loRow π).length).map (outS (loNs π))).map Step.d)) (je_call c ((D__law_steps T A).mono (by decide)) (ja_cons (je_var c 1) (ja_cons (je_var c 2) (ja_nil))) (fun q => ⟨loRow π, (loNs π).map fun (n : Nat) => ((n : Nat) : Int), F.row, lo_args3 π, rfl, rfl⟩)) (fun q => ?h17))) <|
    jss_if (jt_cmp op_notBl (fun q => rv_notB) (je_call c ((D_shows_changes T A).mono (by decide)) (ja_cons (je_var c 1) (ja_cons (je_var c 3) (ja_cons (je_tup (ds := [_, _, _]) (ja_cons (je_var c 5) (ja_cons (je_var c 7) (ja_cons (je_ix (o_ixT c) (fun q => rv_ixTc2) (je_call c ((D_changes_told T A).mono (by decide)) (ja_cons (je_var c 1) (ja_cons (je_var c 3) (ja_nil))) (fun q => ⟨loRow π, loRest π, F.row, F.rest, by have := F.len; omega, by have := F.rl; have := F.kl; have := F.len; omega, rfl, rfl, rfl⟩)) (je_int)) (ja_nil)))) (by show 3 ≤ sizeLine; decide)) (ja_nil)))) (fun q => ⟨loRow π, loRest π, (loRow π).length, (loRest π).length, fun i j => (D (loRow π) (loRest π) i j : Nat), (List.range (loRow π).length).map (outS (loNs π)), ((loRow π).length : Nat) - ((loRest π).length : Nat), F.row, F.rest, by have := F.len; omega, by have := F.rl; have := F.kl; have := F.len; omega, by have := F.len; omega, by have := F.rl; have := F.kl; have := F.len; omega, D_bound (by have := F.len; omega) (by have := F.rl; have := F.kl; have := F.len; omega), D_zero _ _, by rw [List.length_map, List.length_range]; have := F.len; omega, by have := F.rl; have := F.kl; omega, by have := F.len; omega, rfl, rfl, rfl⟩)) (je_bl))
    (jss_one (js_ret (je_bl) (fun q => ?h18)))
    (jss_cons (js_par_dd c 8 9 (je_call c ((D__law_row T A).mono (by decide)) (ja_pot c 0 (ja_cons (JE.is je_str (fun _ => abc_is)) (ja_cons (je_int) (ja_cons (je_int) (ja_nil))))) (fun q => ⟨abc, 0, 9, F.p4.mono (by omega), by decide, by decide, by decide, by decide, by decide, rfl, show st (loAh π) = _ from rfl, show loP5 π = _ from rfl⟩)) (je_call c ((D__law_row T A).mono (by decide)) (ja_pot c 0 (ja_cons (JE.is je_str (fun _ => abc_is)) (ja_cons (je_int) (ja_cons (je_int) (ja_nil))))) (fun q => ⟨abc, 0, 9, F.p5.mono (by omega), by decide, by decide, by decide, by decide, by decide, rfl, show st (loBe π) = _ from rfl, show loP6 π = _ from rfl⟩)) (fun env h => by unfold swappedStores Env.blockKind Env.kindOf; rw [h]; rfl)) <|
    jss_if (JW.jt (jw_or (jt_cmp op_ne (fun q => rv_neI) (je_call c ((D_least_changes T A).mono (by decide)) (ja_cons (je_op op_add_str (fun q => rv_addS ?h20) (je_op op_add_str (fun q => rv_addS ?h19) (je_var c 8) (je_var c 1)) (je_var c 9)) (ja_cons (je_op op_add_str (fun q => rv_addS ?h22) (je_op op_add_str (fun q => rv_addS ?h21) (je_var c 8) (je_var c 3)) (je_var c 9)) (ja_nil))) (fun q => ⟨_, _, F.r3, F.t3, F.l3.1, F.l3.2, rfl, rfl, rfl⟩)) (je_var c 5)) (jw_or1 (jt_cmp op_lt (fun q => rv_lt) (je_call c ((D_how_many_least T A).mono (by decide)) (ja_cons (je_op op_add_str (fun q => rv_addS ?h24) (je_op op_add_str (fun q => rv_addS ?h23) (je_var c 8) (je_var c 1)) (je_var c 9)) (ja_cons (je_op op_add_str (fun q => rv_addS ?h26) (je_op op_add_str (fun q => rv_addS ?h25) (je_var c 8) (je_var c 3)) (je_var c 9)) (ja_nil))) (fun q => ⟨_, _, F.r3, F.t3, F.l3.1, F.l3.2, rfl, rfl, rfl⟩)) (je_var c 6)))))
    (jss_one (js_ret (je_bl) (fun q => ?h27)))
    (jss_cons (js_asgDict c 10 ((D_nearly_at T A).mono (by decide)) (ja_cons (je_op op_add_str (fun q => rv_addS ?h28) (je_var c 8) (je_var c 1)) (ja_cons (je_var c 3) (ja_cons (je_int) (ja_nil)))) (fun q => ⟨loAh π ++ loRow π, loRest π, 60, F.r2, F.rest, by have := F.rl; have := F.kl; have := F.len; omega, by decide, by decide, rfl, lo_near F, rfl⟩) T.f_dict) <|
    jss_if (JW.jt (jw_or (jt_cmp (o_neD c) (fun q => rv_neD ?h33 ?h34) (JL.je (jl_sortedDic (ks := loXs ((loAh π ++ loRow π).length + 1)) c 10 T.f_sorted (fun q => ?h29))) (JL.je (jl_listRg c (je_op op_add (fun _ => rv_add) (je_callB c call_len_str T.f_len (fun q => rc_lenS ?h31) (ds := [_]) (ja_cons (je_op op_add_str (fun q => rv_addS ?h30) (je_var c 8) (je_var c 1)) (ja_nil))) (je_int)) (fun q => ?h32) T.f_range T.f_list))) (jw_or (jt_cmp op_gt (fun q => rv_gt) (je_dget c 10 (v := (loEn π (loAh π ++ loRow π).length : Nat)) (je_callB c call_len_str T.f_len (fun q => rc_lenS ?h36) (ds := [_]) (ja_cons (je_op op_add_str (fun q => rv_addS ?h35) (je_var c 8) (je_var c 1)) (ja_nil))) (fun q => ?h37)) (je_var c 5)) (jw_or1 (jt_cmp op_ne (fun q => rv_neI) (je_dget c 10 (v := (loEn π 0 : Nat)) (je_int) (fun q => ?h38)) (je_callB c call_len_str T.f_len (fun q => rc_lenS ?h39) (ds := [_]) (ja_cons (je_var c 3) (ja_nil))))))))
    (jss_one (js_ret (je_bl) (fun q => ?h40)))
    (jss_one (js_ret (je_callB c (o_all c) T.f_all (fun _ => rc_allF) (ds := [_]) (ja_cons (JLc.je c (jlc_map (j := 4) c (ji_rng1 c (je_callB c call_len_str T.f_len (fun q => rc_lenS ?h42) (ds := [_]) (ja_cons (je_op op_add_str (fun q => rv_addS ?h41) (je_var c 8) (je_var c 1)) (ja_nil))) (fun q => ?h43) T.f_range) (fun q => ?h46) (fun Y cY i => je_cmp op_le (fun q => rv_le) (je_callB cY call_abs T.f_abs (fun _ => rc_abs) (ds := [_]) (ja_cons (je_op op_sub (fun _ => rv_sub) (je_dget cY 10 (v := (loEn π (i + 1) : Nat)) (je_op op_add (fun _ => rv_add) (je_var cY 4) (je_int)) (fun q => ?h44)) (je_dget cY 10 (v := (loEn π i : Nat)) (je_var cY 4) (fun q => ?h45))) (ja_nil))) (je_int)))) (ja_nil))) (fun q => ?h47))))))⟩
  case h1 => -- length
    rw [sizeLine_eq]; decide
  case h2 => -- length
    have := F.ahl; have := F.bel; have := F.len; have := F.rs; have := F.l2; simp only [List.length_append] at *; rw [sizeLine_eq]; omega
  case h3 => -- range ok
    have := F.len; exact RgOk.of_le (by decide) (by omega) (by decide) (by omega)
  case h4 => -- length
    have := F.ahl; have := F.bel; have := F.len; have := F.rs; have := F.l2; simp only [List.length_append] at *; rw [sizeLine_eq]; omega
  case h5 => -- perm
    exact ascI_perm _
  case h6 => -- ascending
    exact ascI_le _
  case h7 => -- as places
    exact congrArg PyData.list (lo_places F)
  case h8 => -- length
    have := F.ahl; have := F.bel; have := F.len; have := F.rs; have := F.l2; simp only [List.length_append] at *; rw [sizeLine_eq]; omega
  case h9 => -- is at
    rfl
  case h10 => -- below, row[at]
    exact lo_at F q.2
  case h11 => -- few items
    have := F.nl; have := F.kl; have := F.len; omega
  case h12 => -- join
    rw [ones_sum _ fun _ => rfl]; have := F.nl; have := F.kl; have := F.len; omega
  case h13 => -- as rest
    exact congrArg st (lo_join _ _)
  case h14 => -- length
    have := F.ahl; have := F.bel; have := F.len; have := F.rs; have := F.l2; simp only [List.length_append] at *; rw [sizeLine_eq]; omega
  case h15 => -- length
    have := F.ahl; have := F.bel; have := F.len; have := F.rs; have := F.l2; simp only [List.length_append] at *; rw [sizeLine_eq]; omega
  case h16 => -- return False
    exact Bool.noConfusion q.2
  case h17 => -- as steps
    exact lo_steps _ _
  case h18 => -- return False
    exact absurd q.2 (by rw [lo_shown F]; decide)
  case h19 => -- length of ahead + row
    have := F.ahl; have := F.bel; have := F.len; have := F.rs; have := F.l2; simp only [List.length_append] at *; rw [sizeLine_eq]; omega
  case h20 => -- length of ahead + row + behind
    have := F.ahl; have := F.bel; have := F.len; have := F.rs; have := F.l2; simp only [List.length_append] at *; rw [sizeLine_eq]; omega
  case h21 => -- length of ahead + rest
    have := F.ahl; have := F.bel; have := F.len; have := F.rs; have := F.l2; simp only [List.length_append] at *; rw [sizeLine_eq]; omega
  case h22 => -- length of ahead + rest + behind
    have := F.ahl; have := F.bel; have := F.len; have := F.rs; have := F.l2; simp only [List.length_append] at *; rw [sizeLine_eq]; omega
  case h23 => -- length of ahead + row
    have := F.ahl; have := F.bel; have := F.len; have := F.rs; have := F.l2; simp only [List.length_append] at *; rw [sizeLine_eq]; omega
  case h24 => -- length of ahead + row + behind
    have := F.ahl; have := F.bel; have := F.len; have := F.rs; have := F.l2; simp only [List.length_append] at *; rw [sizeLine_eq]; omega
  case h25 => -- length of ahead + rest
    have := F.ahl; have := F.bel; have := F.len; have := F.rs; have := F.l2; simp only [List.length_append] at *; rw [sizeLine_eq]; omega
  case h26 => -- length of ahead + rest + behind
    have := F.ahl; have := F.bel; have := F.len; have := F.rs; have := F.l2; simp only [List.length_append] at *; rw [sizeLine_eq]; omega
  case h27 => -- return False
    exact absurd (q.2.symm.trans (lo_z1 F)) (by decide)
  case h28 => -- length of ahead + row
    have := F.ahl; have := F.bel; have := F.len; have := F.rs; have := F.l2; simp only [List.length_append] at *; rw [sizeLine_eq]; omega
  case h29 => -- keys
    exact lo_keys π (by have := F.l2; omega)
  case h30 => -- length of ahead + row
    have := F.ahl; have := F.bel; have := F.len; have := F.rs; have := F.l2; simp only [List.length_append] at *; rw [sizeLine_eq]; omega
  case h31 => -- length
    have := F.ahl; have := F.bel; have := F.len; have := F.rs; have := F.l2; simp only [List.length_append] at *; rw [sizeLine_eq]; omega
  case h32 => -- range ok
    have := F.l2; exact RgOk.of_le (by decide) (by omega) (by decide) (by omega)
  case h33 => -- shaped
    exact shaped_ints _
  case h34 => -- shaped
    rw [show rgD 0 (((loAh π ++ loRow π).length : Nat) + 1) = (loXs ((loAh π ++ loRow π).length + 1)).map PyData.int from loXs_D _]; exact shaped_ints _
  case h35 => -- length of ahead + row
    have := F.ahl; have := F.bel; have := F.len; have := F.rs; have := F.l2; simp only [List.length_append] at *; rw [sizeLine_eq]; omega
  case h36 => -- length
    have := F.ahl; have := F.bel; have := F.len; have := F.rs; have := F.l2; simp only [List.length_append] at *; rw [sizeLine_eq]; omega
  case h37 => -- entry ends[len(ahead + row)]
    exact lo_get (by omega) rfl
  case h38 => -- entry ends[0]
    exact lo_get (by omega) rfl
  case h39 => -- length
    have := F.ahl; have := F.bel; have := F.len; have := F.rs; have := F.l2; simp only [List.length_append] at *; rw [sizeLine_eq]; omega
  case h40 => -- return False
    exact absurd (q.2.symm.trans (lo_z2 F)) (by decide)
  case h41 => -- length of ahead + row
    have := F.ahl; have := F.bel; have := F.len; have := F.rs; have := F.l2; simp only [List.length_append] at *; rw [sizeLine_eq]; omega
  case h42 => -- length
    have := F.ahl; have := F.bel; have := F.len; have := F.rs; have := F.l2; simp only [List.length_append] at *; rw [sizeLine_eq]; omega
  case h43 => -- range
    have := F.l2; omega
  case h44 => -- entry ends[at + 1]
    exact lo_get (by omega) rfl
  case h45 => -- entry ends[at]
    exact lo_get (by omega) rfl
  case h46 => -- few items
    have := F.l2; omega
  case h47 => -- return all([abs(ends[at + 1] - ends[at]) <= 1 for at in range(len(ahead + row))])
    exact ⟨congrArg PyData.bool (lo_end F), rfl⟩
end K12

/-! ## K12Law9 -/
set_option Elab.async false
set_option linter.all false
set_option maxRecDepth 100000
set_option maxHeartbeats 2000000
/-! k12: what _law_is_apart_right draws and says -/
namespace K12
open PySem PySem.Spec PyProof.Rows L2 JD
def apA (π : Pot) : List Nat := rowV π abc 0 12
def apP1 (π : Pot) : Pot := rowP π abc 0 12
def apB (π : Pot) : List Nat := rowV (apP1 π) xyz 0 12
def apP2 (π : Pot) : Pot := rowP (apP1 π) xyz 0 12
structure Ap (k : Nat) (π : Pot) : Prop where
  a : Row (apA π)
  b : Row (apB π)
  la : (apA π).length ≤ 12
  lb : (apB π).length ≤ 12
  p1 : PotN (k + 13) (apP1 π)
  p2 : PotN (k + 26) (apP2 π)
  ne : ∀ x ∈ apA π, ∀ y ∈ apB π, x ≠ y
theorem ap_facts {k : Nat} {π : Pot} (h : PotN k π) : Ap k π := by
  have p1 : PotN (k + 13) (apP1 π) := (rowP_N h (by decide) (by decide)).mono (by show k + 1 + 12 ≤ _; omega)
  have p2 : PotN (k + 26) (apP2 π) := (rowP_N p1 (by decide) (by decide)).mono (by show k + 13 + 1 + 12 ≤ _; omega)
  have la : (apA π).length ≤ 12 := by unfold apA; rw [rowV_len]; have := rowN_in (π := π) (lo := 0) (hi := 12) (by decide) (by decide); omega
  have lb : (apB π).length ≤ 12 := by unfold apB; rw [rowV_len]; have := rowN_in (π := apP1 π) (lo := 0) (hi := 12) (by decide) (by decide); omega
  have ha : ∀ c ∈ apA π, c ∈ abc := fun c hc => rowV_in (by decide) c hc
  have hb : ∀ c ∈ apB π, c ∈ xyz := fun c hc => rowV_in (by decide) c hc
  exact { a := row_abc (by omega) ha, b := row_xyz (by omega) hb, la := la, lb := lb, p1 := p1, p2 := p2
          ne := fun x hx y hy e => by
            have h1 := ha x hx
            have h2 := hb y hy
            simp only [List.mem_cons, List.not_mem_nil, or_false] at h1 h2
            omega }
theorem Ap.En {k : Nat} {π : Pot} (F : Ap k π) (i : Nat) : En (apA π) (apB π) (apA π).length i = (apA π).length := by
  unfold K12.En
  rw [E_apart, List.length_reverse, List.take_length]
  intro x hx y hy
  rw [List.take_length] at hx
  exact F.ne x (List.mem_reverse.mp hx) y (List.mem_of_mem_take (List.mem_reverse.mp hy))
theorem Ap.near {k : Nat} {π : Pot} (F : Ap k π) : near (apA π) (apB π) 60 = tab ((apB π).length + 1) fun _ => ((apA π).length : Nat) := by
  rw [near_all fun i _ => by rw [F.En]; have := F.la; omega]
  unfold tab
  exact List.map_congr_left fun i _ => by show (((i : Nat) : Int), ((K12.En (apA π) (apB π) (apA π).length i : Nat) : Int)) = _; rw [F.En]
theorem Ap.none {k : Nat} {π : Pot} (F : Ap k π) : K12.near (apA π) (apB π) (((apA π).length : Nat) - 1) = [] := by
  unfold K12.near
  rw [List.filter_eq_nil_iff.mpr fun i _ => by rw [F.En]; simp; omega]
  rfl
theorem unl_ne {a b : List Nat} (h : ∀ x ∈ a, ∀ y ∈ b, x ≠ y) (hl : a.length = b.length) : unl a b = a.length := by
  unfold unl
  rw [← hl, Nat.min_self, List.filter_eq_self.mpr, List.length_range]
  intro i hi
  have hi' := List.mem_range.mp hi
  have := h _ (getD_in hi') _ (getD_in (hl ▸ hi'))
  rw [Bool.not_eq_true', decide_eq_false_iff_not]
  intro e
  exact this (List.head_eq_of_cons_eq e)
theorem Ap.cuts {k : Nat} {π : Pot} (F : Ap k π) : ∀ i, i + (apA π).length ≤ (apB π).length → unl (cutN (apB π) (some (i : Int)) (some ((i : Int) + ((apA π).length : Nat)))) (apA π) = (apA π).length := fun i hi => by
  have e : (cutN (apB π) (some (i : Int)) (some ((i : Int) + ((apA π).length : Nat)))).length = (apA π).length := by
    have e1 : HT.sIx (apB π).length 0 (some (i : Int)) = i := by rw [HT.sIx_nat]; omega
    have e2 : HT.sIx (apB π).length (apB π).length (some ((i : Int) + ((apA π).length : Nat))) = i + (apA π).length := by rw [show (i : Int) + ((apA π).length : Nat) = ((i + (apA π).length : Nat) : Int) by omega, HT.sIx_nat]; omega
    unfold cutN
    rw [e1, e2, List.length_take, List.length_drop]; omega
  rw [unl_ne (fun x hx y hy => ?_) e, e]
  refine (F.ne y hy x ?_).symm
  unfold cutN at hx
  exact List.mem_of_mem_drop (List.mem_of_mem_take hx)
theorem Ap.L {k : Nat} {π : Pot} (F : Ap k π) : L (apA π) (apB π) = max (apA π).length (apB π).length ∧ W (apA π) (apB π) = choose (max (apA π).length (apB π).length) (min (apA π).length (apB π).length) := apart F.ne
abbrev apM (π : Pot) : Int := if (((apB π).length : Nat) : Int) > ((apA π).length : Nat) then ((apB π).length : Nat) else ((apA π).length : Nat)
abbrev apm (π : Pot) : Int := if (((apB π).length : Nat) : Int) < ((apA π).length : Nat) then ((apB π).length : Nat) else ((apA π).length : Nat)
theorem apM_eq (π : Pot) : apM π = ((max (apA π).length (apB π).length : Nat) : Int) := by unfold apM; split <;> omega
theorem apm_eq (π : Pot) : apm π = ((min (apA π).length (apB π).length : Nat) : Int) := by unfold apm; split <;> omega
theorem ap_args (π : Pot) : [Ag.d (.int (apM π)), .d (.int (apm π))] = [Ag.d (.int ((max (apA π).length (apB π).length : Nat) : Int)), .d (.int ((min (apA π).length (apB π).length : Nat) : Int))] := by rw [apM_eq, apm_eq]
theorem ap_args2 (π : Pot) (w : Nat) : [Ag.d (st (apA π)), .d (st (apB π)), .d (.int (apM π)), .d (.int (w : Nat))] = [Ag.d (st (apA π)), .d (st (apB π)), .d (.int ((max (apA π).length (apB π).length : Nat) : Int)), .d (.int (w : Nat))] := by rw [apM_eq]
theorem ap_near {k : Nat} {π : Pot} (F : Ap k π) : PyData.tuple ((tab ((apB π).length + 1) fun _ => ((apA π).length : Nat)).map JD.pairD) = .tuple ((near (apA π) (apB π) 60).map JD.pairD) := by rw [F.near]
theorem ap_none {k : Nat} {π : Pot} (F : Ap k π) : PyData.tuple [] = .tuple ((near (apA π) (apB π) (((apA π).length : Nat) - 1)).map JD.pairD) := by rw [F.none]; rfl
def ap_list (π : Pot) : List (Int × Int) := tab ((apB π).length + 1) fun _ => ((apA π).length : Nat)
theorem ap_small {k : Nat} {π : Pot} (F : Ap k π) : ∀ xy ∈ ap_list π, (0 ≤ xy.1 ∧ xy.1 ≤ 1000) ∧ 0 ≤ xy.2 ∧ xy.2 ≤ 1000 := fun xy h => by
  unfold ap_list tab at h
  obtain ⟨i, hi, rfl⟩ := List.mem_map.mp h
  have := List.mem_range.mp hi
  have := F.la; have := F.lb
  exact ⟨⟨by show (0 : Int) ≤ (i : Nat); omega, by show ((i : Nat) : Int) ≤ 1000; omega⟩, by show (0 : Int) ≤ ((apA π).length : Nat); omega, by show (((apA π).length : Nat) : Int) ≤ 1000; omega⟩
theorem ap_few {k : Nat} {π : Pot} (F : Ap k π) : (ap_list π).length ≤ 100 := by unfold ap_list tab; rw [List.length_map, List.length_range]; have := F.lb; omega
theorem pr_show {l : List (Int × Int)} (h : ∀ xy ∈ l, (0 ≤ xy.1 ∧ xy.1 ≤ 1000) ∧ 0 ≤ xy.2 ∧ xy.2 ≤ 1000) : (PyData.tuple (l.map JD.pairD)).showable = true := by
  rw [PyData.showable]
  induction l with
  | nil => rfl
  | cons xy l ih =>
    have hx := h xy (List.mem_cons_self ..)
    have s : ∀ z : Int, 0 ≤ z → z ≤ 1000 → (PyData.int z).showable = true := fun z h0 h1 => by
      obtain ⟨n, rfl⟩ : ∃ n : Nat, z = n := ⟨z.toNat, by omega⟩
      exact show_ok (by omega)
    rw [List.map_cons, PyData.showableAll, ih fun y hy => h y (List.mem_cons_of_mem _ hy)]
    unfold JD.pairD
    rw [PyData.showable, PyData.showableAll, PyData.showableAll, PyData.showableAll, s _ hx.1.1 hx.1.2, s _ hx.2.1 hx.2.2]; rfl
theorem pr_nodict (l : List (Int × Int)) : (PyData.tuple (l.map JD.pairD)).hasDict = false := by
  rw [PyData.hasDict]
  induction l with
  | nil => rfl
  | cons xy l ih => rw [List.map_cons, PyData.hasDictAll, ih]; rfl
theorem pr_depth (l : List (Int × Int)) : (PyData.tuple (l.map JD.pairD)).depth ≤ 32 := by
  rw [PyData.depth]
  have h : PyData.depthAll (l.map JD.pairD) ≤ 3 := by
    induction l with
    | nil => simp [PyData.depthAll]
    | cons xy l ih =>
      rw [List.map_cons]
      unfold JD.pairD at ih ⊢
      simp only [PyData.depthAll, PyData.depth] at ih ⊢
      omega
  omega
theorem small_all : (List.range 1001).all (fun n => (PyData.int (n : Nat)).intsShort 13) = true := by decide +kernel
theorem small_short (n : Nat) (h : n ≤ 1000) : (PyData.int (n : Nat)).intsShort 13 = true := List.all_eq_true.mp small_all n (List.mem_range.mpr (by omega))
theorem pr_len {l : List (Int × Int)} (h : ∀ xy ∈ l, (0 ≤ xy.1 ∧ xy.1 ≤ 1000) ∧ 0 ≤ xy.2 ∧ xy.2 ≤ 1000) (hl : l.length ≤ 100) : (PyData.tuple (l.map JD.pairD)).shown.length ≤ sizeLine := by
  refine Nat.le_trans (shown_le13 ?_ ?_) (by rw [sizeLine_eq]; decide)
  · show (PyData.canLay0 _ && decide (PyData.depth _ ≤ 64) && decide (PyData.weight _ ≤ 2 ^ 20)) = true
    rw [Bool.and_eq_true, Bool.and_eq_true]
    refine ⟨⟨?_, decide_eq_true (Nat.le_trans (pr_depth l) (by decide))⟩, decide_eq_true ?_⟩
    · rw [PyData.canLay0]
      clear h hl
      induction l with
      | nil => rfl
      | cons xy l ih => rw [List.map_cons, PyData.canLayAll0, ih]; rfl
    · rw [PyData.weight]
      have key : ∀ z : Int, 0 ≤ z → z ≤ 1000 → (PyData.int z).weight ≤ 1001 := fun z h0 h1 => by
        rw [PyData.weight]
        split
        · omega
        · have := Nat.log2_le_self z.natAbs
          omega
      have w : ∀ l : List (Int × Int), (∀ xy ∈ l, (0 ≤ xy.1 ∧ xy.1 ≤ 1000) ∧ 0 ≤ xy.2 ∧ xy.2 ≤ 1000) → PyData.weightAll (l.map JD.pairD) ≤ 3000 * l.length := fun l => by
        induction l with
        | nil => intro _; exact Nat.le_refl _
        | cons xy l ih =>
          intro h
          have hx := h xy (List.mem_cons_self ..)
          have := ih fun y hy => h y (List.mem_cons_of_mem _ hy)
          have k1 := key _ hx.1.1 hx.1.2
          have k2 := key _ hx.2.1 hx.2.2
          rw [List.map_cons, PyData.weightAll, List.length_cons]
          unfold JD.pairD at this ⊢
          have e : (PyData.tuple [.int xy.1, .int xy.2]).weight = (PyData.int xy.1).weight + 1 + ((PyData.int xy.2).weight + 1 + 0) := by
            rw [PyData.weight, PyData.weightAll, PyData.weightAll, PyData.weightAll]
          rw [e]
          omega
      have := w l h
      omega
  · rw [PyData.intsShort]
    clear hl
    induction l with
    | nil => rfl
    | cons xy l ih =>
      have hx := h xy (List.mem_cons_self ..)
      have s : ∀ z : Int, 0 ≤ z → z ≤ 1000 → (PyData.int z).intsShort 13 = true := fun z h0 h1 => by
        obtain ⟨n, rfl⟩ : ∃ n : Nat, z = n := ⟨z.toNat, by omega⟩
        exact small_short n (by omega)
      rw [List.map_cons, PyData.intsShortAll, ih fun y hy => h y (List.mem_cons_of_mem _ hy)]
      unfold JD.pairD
      rw [PyData.intsShort, PyData.intsShortAll, PyData.intsShortAll, PyData.intsShortAll, s _ hx.1.1 hx.1.2, s _ hx.2.1 hx.2.2]; rfl
theorem ap_same {k : Nat} {π : Pot} (F : Ap k π) : PyData.tuple ((List.range ((((apB π).length : Nat) : Int) + 1).toNat).map fun (i : Nat) => .tuple [.int ((i : Nat) : Int), .int ((apA π).length : Nat)]) = .tuple ((ap_list π).map JD.pairD) := by
  unfold ap_list tab
  rw [List.map_map, show ((((apB π).length : Nat) : Int) + 1).toNat = (apB π).length + 1 by omega]
  rfl
theorem ap_some {π : Pot} (h : (!decide (S (apA π) = "")) = true) : (0 : Int) ≤ ((apA π).length : Nat) - 1 := by
  by_cases c : apA π = []
  · rw [c] at h; exact absurd h (by decide +kernel)
  · have := List.length_pos_iff.mpr c; omega
abbrev nrD (a b : Nat) : PyData := if a ≤ b then .tuple [.int (a : Nat), .int 0] else .none
theorem nr_len {a b : Nat} (h : a ≤ 1000) : (nrD a b).shown.length ≤ sizeLine := by
  refine Nat.le_trans (shown_le13 ?_ ?_) (by rw [sizeLine_eq]; decide)
  · unfold nrD
    split
    · show (PyData.canLay0 _ && decide (PyData.depth _ ≤ 64) && decide (PyData.weight _ ≤ 2 ^ 20)) = true
      rw [Bool.and_eq_true, Bool.and_eq_true]
      refine ⟨⟨rfl, decide_eq_true (by simp [PyData.depth, PyData.depthAll])⟩, decide_eq_true ?_⟩
      rw [PyData.weight, PyData.weightAll, PyData.weightAll, PyData.weightAll, PyData.weight, PyData.weight]
      have e1 := Nat.log2_le_self a
      have e2 : (((a : Nat) : Int)).natAbs = a := Int.natAbs_natCast a
      rw [e2]
      split <;> simp <;> omega
    · decide +kernel
  · unfold nrD
    split
    · rw [PyData.intsShort, PyData.intsShortAll, PyData.intsShortAll, PyData.intsShortAll, small_short a h, show (PyData.int 0).intsShort 13 = true from small_short 0 (by decide)]; rfl
    · rfl
theorem nr_show {a b : Nat} (h : a ≤ 1000) : (nrD a b).showable = true := by
  unfold nrD
  split
  · rw [PyData.showable, PyData.showableAll, PyData.showableAll, PyData.showableAll, show_ok h, show (PyData.int 0).showable = true from show_ok (n := 0) (by decide)]; rfl
  · rfl
theorem nr_nodict (a b : Nat) : (nrD a b).hasDict = false := by unfold nrD; split <;> rfl
theorem nr_depth (a b : Nat) : (nrD a b).depth ≤ 32 := by unfold nrD; split <;> simp [PyData.depth, PyData.depthAll]
theorem nr_if (a b : Nat) : (if decide (((a : Nat) : Int) ≤ ((b : Nat) : Int)) = true then PyData.tuple [.int (a : Nat), .int 0] else .none) = nrD a b := by
  unfold nrD
  by_cases c : a ≤ b
  · rw [if_pos c, if_pos (decide_eq_true (by omega))]
  · rw [if_neg c, if_neg (by rw [decide_eq_true_iff]; omega)]
theorem ap_unl {k : Nat} {π : Pot} (F : Ap k π) : (decide ((((apA π).length : Nat) : Int) = ((apB π).length : Nat)) && !decide (((unl (apA π) (apB π) : Nat) : Int) = ((apA π).length : Nat))) = false := by
  by_cases e : (apA π).length = (apB π).length
  · rw [unl_ne F.ne e, decide_eq_true (p := (((apA π).length : Nat) : Int) = ((apA π).length : Nat)) rfl]; simp
  · rw [decide_eq_false (by omega)]; rfl
end K12

/-! ## K12W10 -/
set_option Elab.async false
set_option linter.all false
set_option maxRecDepth 100000
set_option maxHeartbeats 4000000
namespace K12
open PySem PySem.Spec PyProof.Rows L2 JD

/-! ### _law_is_apart_right -/
theorem sc__law_is_apart_right : FnScope ["pot", "one", "other", "most", "few", "ends", "at", "near"] ["pot"] (defScope sUlawUisUapartUright) := ⟨rfl, rfl, rfl, by decide +kernel, rfl, by decide +kernel, by decide +kernel⟩
abbrev R__law_is_apart_right : Says := fun π as d π' => ∃ (k : Nat), k ≤ 7000 ∧ PotN k π ∧ as = [.pot] ∧ d = .bool true ∧ π' = apP2 π
theorem D__law_is_apart_right {G : Glb} (T : Fx G) (A : As G) : Df G 7 "_law_is_apart_right" ["pot"] R__law_is_apart_right := by
  refine mkDf A.a__law_is_apart_right sc__law_is_apart_right (fun π as d π' h => by obtain ⟨k, hk, hp, rfl, rfl, rfl⟩ := h; rfl) (fun _ _ _ _ _ _ us hl => match us, hl with | [_], _ => rfl) fun X c π as d π' h => ?_
  obtain ⟨k, hk, hp, rfl, rfl, rfl⟩ := h
  have F := ap_facts hp
  refine' ⟨_, jss_cons (js_unpack2 c 1 2 (je_tup (ds := [_, _]) (ja_cons (je_call c ((D__law_row T A).mono (by decide)) (ja_pot c 0 (ja_cons (JE.is je_str (fun _ => abc_is)) (ja_cons (je_int) (ja_cons (je_int) (ja_nil))))) (fun q => ⟨abc, 0, 12, hp.mono (by omega), by decide, by decide, by decide, by decide, by decide, rfl, show st (apA π) = _ from rfl, show apP1 π = _ from rfl⟩)) (ja_cons (je_call c ((D__law_row T A).mono (by decide)) (ja_pot c 0 (ja_cons (JE.is je_str (fun _ => xyz_is)) (ja_cons (je_int) (ja_cons (je_int) (ja_nil))))) (fun q => ⟨xyz, 0, 12, F.p1.mono (by omega), by decide, by decide, by decide, by decide, by decide, rfl, show st (apB π) = _ from rfl, show apP2 π = _ from rfl⟩)) (ja_nil))) (by show 2 ≤ sizeLine; decide)) (hw := by unfold swappedStores Env.blockKind Env.kindOf; rw [c.sc]; rfl)) <|
    jss_cons (js_par_dd c 3 4 (je_callB c (call_max2 c.calm) T.f_max (fun _ => rc_max2) (ds := [_, _]) (ja_cons (je_callB c call_len_str T.f_len (fun q => rc_lenS ?h1) (ds := [_]) (ja_cons (je_var c 1) (ja_nil))) (ja_cons (je_callB c call_len_str T.f_len (fun q => rc_lenS ?h2) (ds := [_]) (ja_cons (je_var c 2) (ja_nil))) (ja_nil)))) (je_callB c (call_min2 c.calm) T.f_min (fun _ => rc_min2) (ds := [_, _]) (ja_cons (je_callB c call_len_str T.f_len (fun q => rc_lenS ?h3) (ds := [_]) (ja_cons (je_var c 1) (ja_nil))) (ja_cons (je_callB c call_len_str T.f_len (fun q => rc_lenS ?h4) (ds := [_]) (ja_cons (je_var c 2) (ja_nil))) (ja_nil)))) (fun env h => by unfold swappedStores Env.blockKind Env.kindOf; rw [h]; rfl)) <|
    jss_if (jt_not (jt_val (je_call c ((D__law_is_told T A).mono (by decide)) (ja_cons (je_var c 1) (ja_cons (je_var c 2) (ja_cons (je_callTy c call_int1 T.f_int (fun _ => rc_int) (ds := [_]) (ja_cons (je_var c 3) (ja_nil))) (ja_cons (je_call c ((D__law_choose T A).mono (by decide)) (ja_cons (je_var c 3) (ja_cons (je_var c 4) (ja_nil))) (fun q => ⟨max (apA π).length (apB π).length, min (apA π).length (apB π).length, by omega, by have := F.la; have := F.lb; omega, ap_args π, rfl, rfl⟩)) (ja_nil))))) (fun q => ⟨apA π, apB π, max (apA π).length (apB π).length, choose (max (apA π).length (apB π).length) (min (apA π).length (apB π).length), F.a, F.b, by have := F.la; omega, by have := F.lb; omega, F.L.1, F.L.2, ap_args2 π _, rfl, rfl⟩))))
    (jss_one (js_ret (je_bl) (fun q => ?h5)))
    (jss_cons (js_asg c 5 (je_call c ((D_nearly_at T A).toG.mono (by decide)) (ja_cons (je_var c 2) (ja_cons (je_var c 1) (ja_cons (je_int) (ja_nil)))) (fun q => ⟨apB π, apA π, 60, F.b, F.a, by have := F.la; omega, by decide, by decide, rfl, ap_near F, rfl⟩))) <|
    jss_if (jt_cmp op_ne (fun q => rv_neS) (je_callB c (o_repr c) T.f_repr (fun q => rc_repr ?h6 ?h7 ?h8 ?h9) (ds := [_]) (ja_cons (je_var c 5) (ja_nil))) (je_callB c (o_repr c) T.f_repr (fun q => rc_repr ?h14 ?h15 ?h16 ?h17) (ds := [_]) (ja_cons (je_callTy c (o_tupOf c) T.f_tuple (fun _ => rc_tupL) (ds := [_]) (ja_cons (JLc.je c (jlc_map (j := 6) c (ji_rng1 c (je_op op_add (fun _ => rv_add) (je_callB c call_len_str T.f_len (fun q => rc_lenS ?h10) (ds := [_]) (ja_cons (je_var c 2) (ja_nil))) (je_int)) (fun q => ?h11) T.f_range) (fun q => ?h13) (fun Y cY i => je_tup (ds := [_, _]) (ja_cons (je_callTy cY call_int1 T.f_int (fun _ => rc_int) (ds := [_]) (ja_cons (je_var cY 6) (ja_nil))) (ja_cons (je_callTy cY call_int1 T.f_int (fun _ => rc_int) (ds := [_]) (ja_cons (je_callB cY call_len_str T.f_len (fun q => rc_lenS ?h12) (ds := [_]) (ja_cons (je_var cY 1) (ja_nil))) (ja_nil))) (ja_nil))) (by show 2 ≤ sizeLine; decide)))) (ja_nil))) (ja_nil))))
    (jss_one (js_ret (je_bl) (fun q => ?h18)))
    (jss_if (JW.jt (jw_and (jt_cmp op_ne (fun q => rv_neS) (je_var c 1) (je_str)) (jw_and1 (jt_cmp (o_neD c) (fun q => rv_neD ?h20 ?h21) (je_call c ((D_nearly_at T A).toG.mono (by decide)) (ja_cons (je_var c 2) (ja_cons (je_var c 1) (ja_cons (je_op op_sub (fun _ => rv_sub) (je_callB c call_len_str T.f_len (fun q => rc_lenS ?h19) (ds := [_]) (ja_cons (je_var c 1) (ja_nil))) (je_int)) (ja_nil)))) (fun q => ⟨apB π, apA π, ((apA π).length : Nat) - 1, F.b, F.a, by have := F.la; omega, ap_some q.2, by have := F.la; omega, rfl, ap_none F, rfl⟩)) (je_tup (ds := []) (ja_nil) (by show 0 ≤ sizeLine; decide))))))
    (jss_one (js_ret (je_bl) (fun q => ?h22)))
    (jss_if (JW.jt (jw_and (jt_cmp op_eq (fun q => rv_eqI) (je_callB c call_len_str T.f_len (fun q => rc_lenS ?h23) (ds := [_]) (ja_cons (je_var c 1) (ja_nil))) (je_callB c call_len_str T.f_len (fun q => rc_lenS ?h24) (ds := [_]) (ja_cons (je_var c 2) (ja_nil)))) (jw_and1 (jt_cmp op_ne (fun q => rv_neI) (je_call c ((D_unlike T A).mono (by decide)) (ja_cons (je_var c 1) (ja_cons (je_var c 2) (ja_nil))) (fun q => ⟨apA π, apB π, F.a, F.b, by have := of_decide_eq_true q.2; omega, rfl, rfl, rfl⟩)) (je_callB c call_len_str T.f_len (fun q => rc_lenS ?h25) (ds := [_]) (ja_cons (je_var c 1) (ja_nil)))))))
    (jss_one (js_ret (je_bl) (fun q => ?h26)))
    (jss_cons (js_asg c 7 (je_call c ((D_nearest_in T A).mono (by decide)) (ja_cons (je_var c 2) (ja_cons (je_var c 1) (ja_nil))) (fun q => ⟨apB π, apA π, F.b, F.a, F.cuts, rfl, rfl, rfl⟩))) <|
    jss_one (js_ret (je_cmp op_eq (fun q => rv_eqS) (je_callB c (o_repr c) T.f_repr (fun q => rc_repr ?h27 ?h28 ?h29 ?h30) (ds := [_]) (ja_cons (je_var c 7) (ja_nil))) (je_callB c (o_repr c) T.f_repr (fun q => rc_repr ?h34 ?h35 ?h36 ?h37) (ds := [_]) (ja_cons (je_if' (jt_cmp op_le (fun q => rv_le) (je_callB c call_len_str T.f_len (fun q => rc_lenS ?h31) (ds := [_]) (ja_cons (je_var c 1) (ja_nil))) (je_callB c call_len_str T.f_len (fun q => rc_lenS ?h32) (ds := [_]) (ja_cons (je_var c 2) (ja_nil)))) (je_tup (ds := [_, _]) (ja_cons (je_callTy c call_int1 T.f_int (fun _ => rc_int) (ds := [_]) (ja_cons (je_callB c call_len_str T.f_len (fun q => rc_lenS ?h33) (ds := [_]) (ja_cons (je_var c 1) (ja_nil))) (ja_nil))) (ja_cons (je_int) (ja_nil))) (by show 2 ≤ sizeLine; decide)) (je_non)) (ja_nil)))) (fun q => ?h38))))))⟩
  case h1 => -- length
    have := F.la; have := F.lb; rw [sizeLine_eq]; omega
  case h2 => -- length
    have := F.la; have := F.lb; rw [sizeLine_eq]; omega
  case h3 => -- length
    have := F.la; have := F.lb; rw [sizeLine_eq]; omega
  case h4 => -- length
    have := F.la; have := F.lb; rw [sizeLine_eq]; omega
  case h5 => -- return False
    exact Bool.noConfusion q.2
  case h6 => -- showable
    exact pr_show (ap_small F)
  case h7 => -- no dict
    exact pr_nodict _
  case h8 => -- depth
    exact pr_depth _
  case h9 => -- size
    exact pr_len (ap_small F) (ap_few F)
  case h10 => -- length
    have := F.la; have := F.lb; rw [sizeLine_eq]; omega
  case h11 => -- range
    have := F.lb; omega
  case h12 => -- length
    have := F.la; have := F.lb; rw [sizeLine_eq]; omega
  case h13 => -- few items
    have := F.lb; omega
  case h14 => -- showable
    exact ap_same F ▸ pr_show (ap_small F)
  case h15 => -- no dict
    exact ap_same F ▸ pr_nodict _
  case h16 => -- depth
    exact ap_same F ▸ pr_depth _
  case h17 => -- size
    exact ap_same F ▸ pr_len (ap_small F) (ap_few F)
  case h18 => -- return False
    exact absurd q.2 (by rw [ap_same F]; simp; rfl)
  case h19 => -- length
    have := F.la; have := F.lb; rw [sizeLine_eq]; omega
  case h20 => -- shaped
    rfl
  case h21 => -- shaped
    rfl
  case h22 => -- return False
    exact absurd q.2 (by simp [PyData.eqv, PyData.eqvAll])
  case h23 => -- length
    have := F.la; have := F.lb; rw [sizeLine_eq]; omega
  case h24 => -- length
    have := F.la; have := F.lb; rw [sizeLine_eq]; omega
  case h25 => -- length
    have := F.la; have := F.lb; rw [sizeLine_eq]; omega
  case h26 => -- return False
    exact absurd (q.2.symm.trans (ap_unl F)) (by decide)
  case h27 => -- showable
    exact nr_show (by have := F.la; omega)
  case h28 => -- no dict
    exact nr_nodict _ _
  case h29 => -- depth
    exact nr_depth _ _
  case h30 => -- size
    exact nr_len (by have := F.la; omega)
  case h31 => -- length
    have := F.la; have := F.lb; rw [sizeLine_eq]; omega
  case h32 => -- length
    have := F.la; have := F.lb; rw [sizeLine_eq]; omega
  case h33 => -- length
    have := F.la; have := F.lb; rw [sizeLine_eq]; omega
  case h34 => -- showable
    rw [nr_if]; exact nr_show (by have := F.la; omega)
  case h35 => -- no dict
    rw [nr_if]; exact nr_nodict _ _
  case h36 => -- depth
    rw [nr_if]; exact nr_depth _ _
  case h37 => -- size
    rw [nr_if]; exact nr_len (by have := F.la; omega)
  case h38 => -- return repr(near) == repr((int(len(one)), 0) if len(one) <= len(other) else None)
    rw [nr_if]; exact ⟨congrArg PyData.bool (decide_eq_true rfl), rfl⟩
end K12

/-! ## K12W11 -/
set_option Elab.async false
set_option linter.all false
set_option maxRecDepth 100000
set_option maxHeartbeats 4000000
namespace K12
open PySem PySem.Spec PyProof.Rows L2 JD

def lapP (π : Pot) : Nat → Pot
  | 0 => π
  | n + 1 => apP2 (loP6 (lapP π n))
theorem lapP_N {k : Nat} {π : Pot} (h : PotN k π) : ∀ n, PotN (k + 73 * n) (lapP π n)
  | 0 => h
  | n + 1 => ((ap_facts (lo_facts (lapP_N h n)).p6).p2).mono (by omega)

theorem sc_law : FnScope ["script", "place", "pot", "lap"] ["script"] (defScope slaw) := ⟨rfl, rfl, rfl, by decide +kernel, rfl, by decide +kernel, by decide +kernel⟩
abbrev R_law : Says := fun π as d π' => ∃ (xs : List Int), as = [.d (.list (xs.map .int))] ∧ d = .bool true ∧ π' = π
abbrev plN (n i : Nat) : Nat := (List.range n).getD i 0
theorem lap_small {l : Nat} (h : l < (4 : Int).toNat) : 0 + 73 * l ≤ 7000 := by have : (4 : Int).toNat = 4 := rfl; omega
theorem lap_small2 {l : Nat} (h : l < (4 : Int).toNat) : 0 + 73 * l + 47 ≤ 7000 := by have : (4 : Int).toNat = 4 := rfl; omega
theorem pl_small {m i : Nat} (h : i < (List.range (cellsN m - 0).toNat).length) : plN (cellsN m - 0).toNat i ≤ 2 := by
  rw [List.length_range] at h
  have := cells_in m
  unfold plN
  rw [List.getD_eq_getElem?_getD, List.getElem?_range h]
  show i ≤ 2
  omega
theorem np4 (a b : PyData) : noPot [Sl.val a, Sl.val b, Sl.un, Sl.un] := fun j => match j with
  | 0 => fun h => nomatch h
  | 1 => fun h => nomatch h
  | 2 => fun h => nomatch h
  | 3 => fun h => nomatch h
  | n + 4 => fun h => nomatch h
theorem D_law {G : Glb} (T : Fx G) (A : As G) : Df G 8 "law" ["script"] R_law := by
  refine mkDf A.a_law sc_law (fun π as d π' h => by obtain ⟨xs, rfl, rfl, rfl⟩ := h; rfl) (fun _ _ _ _ _ _ us hl => match us, hl with | [_], _ => rfl) fun X c π as d π' h => ?_
  obtain ⟨xs, rfl, rfl, rfl⟩ := h
  refine' ⟨_, jss_cons (js_for c [1] (fun _ => [.val (.list (xs.map .int)), .un, .un, .un]) (fun i => [.val (.list (xs.map .int)), .val (.int (0 + (plN (cellsN xs.length - 0).toNat i : Nat))), .un, .un]) (fun _ => π') (fun _ => True) (ji_listF (f := fun (i : Nat) => PyData.int (0 + (i : Nat))) (xs := List.range (cellsN xs.length - 0).toNat) 0 (je_call c ((D__law_cells T A).mono (by decide)) (ja_cons (je_var c 0) (ja_cons (je_int) (ja_nil))) (fun q => ⟨xs.map .int, rfl, ?h1, rfl⟩)) c) (pg_nameG c 1) (fun q => ⟨rfl, rfl, trivial⟩) (fun _ => eg_name)
    (fun i => jss_pot c 2 (π0 := potOf xs (plN (cellsN xs.length - 0).toNat i)) (jl_callN c ((D__law_pot T A).mono (by decide)) (ja_cons (je_var c 0) (ja_cons (je_var c 1) (ja_nil))) (fun q => ⟨xs, plN (cellsN xs.length - 0).toNat i, ?h2, ?h3, rfl, rfl⟩)) ?h4
      (jss_if (jt_not (jt_val (je_callB c (o_all c) T.f_all (fun _ => rc_allF) (ds := [_]) (ja_cons (JLc.je c (jlc_pot (j := 3) (πs := lapP (potOf xs (plN (cellsN xs.length - 0).toNat i))) c (ji_rng1 c (je_int) (fun q => ?h5) T.f_range) (fun q => ?h6) rfl (fun Y cY l => je_and (je_call cY ((D__law_is_left_out_right T A).mono (by decide)) (ja_pot cY 2 (ja_nil)) (fun q => ⟨0 + 73 * l, lap_small q.2, lapP_N (potOf_N _ _) l, rfl, rfl, rfl⟩)) (hp := fun q => nomatch q.2) (je_one (je_call cY ((D__law_is_apart_right T A).mono (by decide)) (ja_pot cY 2 (ja_nil)) (fun q => ⟨0 + 73 * l + 47, lap_small2 q.1.2, (lo_facts (lapP_N (potOf_N _ _) l)).p6, rfl, rfl, rfl⟩)))))) (ja_nil)))))
        (jss_one (js_ret (je_bl) (fun q => ?h9)))
        (jss_nil (fun q => ?h10))))
    (fun q gq => ⟨rfl, rfl⟩)) <|
    jss_one (js_ret (je_bl) (fun q => ⟨rfl, rfl⟩))⟩
  case h1 => rw [List.length_map]; rfl
  case h2 => exact pl_small q.2.1
  case h3 => rw [Int.zero_add]
  case h4 => exact np4 _ _
  case h5 => decide
  case h6 => decide
  case h9 => exact absurd q.2 (by decide)
  case h10 => exact ⟨⟨rfl, rfl, trivial⟩, np4 _ _⟩

end K12

/-! ## JDEnd -/
set_option Elab.async false
set_option linter.all false
set_option maxRecDepth 100000
set_option maxHeartbeats 2000000
/-! JD: the law's def called from outside, where nothing is being shown -/
namespace JD
open PySem PySem.Spec PyProof.Rows L2
theorem mask_no (H : Hp) : mask (fun _ => False) H = H := funext fun a => mask_out (fun h => h)
theorem script_D {K : PySem.W.Frag} {H : Hp} {a : Addr} {ns : List Int} (h : SqL K H a (ns.map V.int)) : Dp K H (.ref a) (.list (ns.map .int)) := .lst h (DpAll.ofInts _)
/-- what a law says of its script -/
theorem law_says {K : PySem.W.Frag} {R : Says} {H : Hp} {a : Addr} {ns : List Int} {π : Pot} (hS : SqL K H a (ns.map V.int)) (hR : R π [.d (.list (ns.map .int))] (.bool true) π) : spR K R [.ref a] H (fun v _ => v = .bl true) E0 :=
  ⟨none, fun _ => False, [.d (.list (ns.map .int))], π, .bool true, π, fun _ h => h.elim, fun _ h => (nomatch h), fun _ h => (nomatch h), .d (by rw [mask_no]; exact script_D hS) .nil, hR, fun v H' _ _ h => by cases h; rfl⟩
/-- the def's word at one abstract heap that tracks nothing but (perhaps) the script -/
theorem call_at {P : Program} {w : World} {K : PySem.W.Frag} {mg mb : Str → Option Value} {k : Nat} {fa a : Addr} {nm x : Str} {R : Says} {s₁ : Shared} {o : Obj} {H : Hp}
    (KX : K.In s₁.heap) (hns : s₁.heap.Ns mainGlobals mg) (hb : s₁.heap.Ns builtinsNs mb) (hbb : ∀ x : Str, x ≠ "__name__" → mb x = bootBuiltins x) (hlim : s₁.heap.NoLimit) (hg : s₁.gens = #[])
    (ha : s₁.heap.get? a = some o) (hnd : ∀ es ep, o.data ≠ .dict es ep) (hr : Room k callerA)
    (hm : mg nm = some (.ref fa)) (F : ∀ base : Heap, K.In base → base.Ns mainGlobals mg → Df ⟨P, w, K, mg, base⟩ k nm [x] R)
    (hO : ∀ b, H b ≠ none → b = a ∧ K.lookup a = none ∧ ∃ xs, H a = some (.frz o (.lst xs))) (hok : HOk P w H s₁.heap) (hD : spR K R [.ref a] H (fun v _ => v = .bl true) E0) :
    codeAny (model P w) callerA (.call (.ref fa) ⟨[.ref a], []⟩) (fun r s' => r = .ok (.ret (.bool true)) ∧ OldK s₁.heap s'.heap ∧ s'.os = s₁.os ∧ AllBare s'.gens) s₁ := by
  have other : ∀ {b : Addr} {q : Obj} {es : Array DictEntry} {ep : Nat}, s₁.heap.get? b = some q → q.data = .dict es ep → H b = none := fun {b q es ep} e d => Classical.byContradiction fun z => by
    obtain ⟨rfl, _⟩ := hO b z
    rw [ha] at e; cases e
    exact hnd es ep d
  have ns : ∀ {b : Addr} {m : Str → Option Value}, s₁.heap.Ns b m → (hidT s₁.heap H).Ns b m := fun {b m} ⟨q, es, ep, e, d, r⟩ => ⟨q, es, ep, hidT_get e (other e d), d, r⟩
  have kin : K.In (hidT s₁.heap H) := fun b q e => hidT_get (KX b q e) (Classical.byContradiction fun z => by
    obtain ⟨rfl, n, _⟩ := hO b z
    rw [n] at e; cases e)
  have lim : (hidT s₁.heap H).NoLimit := by
    obtain ⟨mc, h1, h2⟩ := hlim
    exact ⟨mc, ns h1, h2⟩
  have e0 : Env0 P w K mg (hidT s₁.heap H) callerA [] s₁ H := ⟨rfl, ⟨kin, ns hns, ⟨mb, ns hb, hbb⟩, lim⟩, fun b q e => of_hidT e, Nat.le_of_eq (hidT_size _ _), trivial, fun b hb => (nomatch hb), hok, .of_eq hg⟩
  obtain ⟨f, fd, Fn, hb2, hm2, _⟩ := (F _ kin (ns hns)).ok
  have ef : fa = f := by
    have z := hm.symm.trans hm2
    cases z; rfl
  subst ef
  have bd : BindsTo s₁ fd ⟨[.ref a], []⟩ [(x, .ref a)] := hb2 s₁ [.ref a] KX rfl
  refine codeAny_mono (Fn.run callerA [] s₁ H ⟨[.ref a], []⟩ [.ref a] [.ref a] _ hr rfl e0 bd (.cons rfl .nil) hD) fun r s' h => ?_
  match r, h with
  | .error e, h => exact (h : CX0 [] H s₁ E0 e s').elim
  | .ok (.ret u), ⟨v, H', os, bare, un, hok', rel, ev⟩ =>
    subst ev
    have eu : u = Value.bool true := rel
    subst eu
    refine ⟨rfl, OldK.of_keep fun b q e => ?_, os, bare⟩
    by_cases z : H b = none
    · exact un.keep b q e z (fun y => nomatch y) (by simp)
    · obtain ⟨rfl, _, xs, hx⟩ := hO b z
      have e1 := (hok b _ hx).1
      have e2 := (hok' b _ (un.frzs b _ _ hx)).1
      rw [e] at e1; cases e1
      exact e2
/-- the goal that the head leaves (case hc) -/
theorem walk_ofG {l : PySem.W.OpenLaw} {n k : Nat} {q : Program} {loose : List Str} {XP : (Str → Option Value) → Heap → Prop} {YP : World → Heap → Prop} {d : DefRec} {x : Str} {R : Says} {π : Pot}
    (hn : l.most = some n) (hn2 : n ≤ sizeLine) (hdf : d.params.defaults = []) (hr : Room k callerA) (hR : ∀ ns : List Int, ns.length ≤ n → R π [.d (.list (ns.map .int))] (.bool true) π)
    (F : ∀ (w : World) (mg : Str → Option Value) (h : Heap), YP w h → h.Ns mainGlobals mg →
      ∃ K : PySem.W.Frag, K.In h ∧ ∀ base : Heap, K.In base → base.Ns mainGlobals mg → Df ⟨l.prog, w, K, mg, base⟩ k d.name [x] R) :
    PySem.W.WalkO q loose XP YP l.row.toRowW d [] (fun f vs => PySem.call f vs) := by
  refine Att.attach_call hn hdf fun w s₀ s₁ mg mb fa o pm cd doc a vs ns G Y ho hd hcd hmg hobj hints hlen hg => ?_
  obtain ⟨K, KX, hF⟩ := F w mg _ Y G.T.g
  have rv := vals_ints hints
  have sz : ns.length ≤ sizeLine := Nat.le_trans hlen hn2
  have nd : ∀ es ep, (Data.seq vs.toArray) ≠ Data.dict es ep := fun _ _ z => nomatch z
  cases hk : K.lookup a with
  | some o' =>
    have e := KX a o' hk
    rw [hobj] at e; cases e
    refine call_at (H := fun _ => none) KX G.T.g G.T.b G.T.builtins G.T.nolimit hg hobj nd hr hmg hF (fun b z => absurd rfl z) (fun b u z => nomatch z) (law_says (.inr ⟨_, vs.toArray, _, hk, rfl, rfl, rfl, by rw [List.size_toArray, hints.length]; exact sz, by simpa using rv⟩) (hR ns hlen))
  | none =>
    refine call_at (H := fun b => if b = a then some (.frz { cls := .type "list", data := .seq vs.toArray } (.lst (ns.map V.int))) else none) KX G.T.g G.T.b G.T.builtins G.T.nolimit hg hobj nd hr hmg hF (fun b z => ?_) (fun b u z => ?_) (law_says (.inl (.inr ⟨_, if_pos rfl⟩)) (hR ns hlen))
    · by_cases e : b = a
      · exact ⟨e, hk, _, if_pos rfl⟩
      · exact absurd (if_neg e) z
    · by_cases e : b = a
      · have z' := (if_pos e).symm.trans z
        cases z'; subst e
        exact ⟨hobj, by rw [List.length_map]; exact sz, vs, _, rv, hobj⟩
      · have z' := (if_neg e).symm.trans z
        cases z'
end JD

/-! ## K12Head2 -/
set_option Elab.async false
set_option linter.all false
set_option maxRecDepth 100000
set_option maxHeartbeats 0
namespace K12
open PySem PySem.Spec PyProof.Rows L2
/-! ### the text: places of the defs -/
/-! ### the head: facts by names, the run -/
def dsisUinteger : He.DefD := ⟨("is_integer", none), "is_integer", "is_integer", defArgs sisUinteger, defBody sisUinteger, defScope sisUinteger, [], []⟩
def dsisUbetween : He.DefD := ⟨("is_between", none), "is_between", "is_between", defArgs sisUbetween, defBody sisUbetween, defScope sisUbetween, [], []⟩
def dsareUbetween : He.DefD := ⟨("are_between", none), "are_between", "are_between", defArgs sareUbetween, defBody sareUbetween, defScope sareUbetween, [], []⟩
def dsisUtupleUof : He.DefD := ⟨("is_tuple_of", none), "is_tuple_of", "is_tuple_of", defArgs sisUtupleUof, defBody sisUtupleUof, defScope sisUtupleUof, [], []⟩
def dsisUrowUof : He.DefD := ⟨("is_row_of", none), "is_row_of", "is_row_of", defArgs sisUrowUof, defBody sisUrowUof, defScope sisUrowUof, [], []⟩
def dscheckUrow : He.DefD := ⟨("check_row", none), "check_row", "check_row", defArgs scheckUrow, defBody scheckUrow, defScope scheckUrow, [], []⟩
def dsunlikeUof : He.DefD := ⟨("unlike_of", none), "unlike_of", "unlike_of", defArgs sunlikeUof, defBody sunlikeUof, defScope sunlikeUof, [], []⟩
def dsunlike : He.DefD := ⟨("unlike", none), "unlike", "unlike", defArgs sunlike, defBody sunlike, defScope sunlike, [], []⟩
def dsboardUof : He.DefD := ⟨("board_of", none), "board_of", "board_of", defArgs sboardUof, defBody sboardUof, defScope sboardUof, [], []⟩
def dsstepsUback : He.DefD := ⟨("steps_back", none), "steps_back", "steps_back", defArgs sstepsUback, defBody sstepsUback, defScope sstepsUback, [], []⟩
def dscheckUboard : He.DefD := ⟨("check_board", none), "check_board", "check_board", defArgs scheckUboard, defBody scheckUboard, defScope scheckUboard, [], []⟩
def dschangesUtold : He.DefD := ⟨("changes_told", none), "changes_told", "changes_told", defArgs schangesUtold, defBody schangesUtold, defScope schangesUtold, [], []⟩
def dsleastUchanges : He.DefD := ⟨("least_changes", none), "least_changes", "least_changes", defArgs sleastUchanges, defBody sleastUchanges, defScope sleastUchanges, [], []⟩
def dshowUmanyUleast : He.DefD := ⟨("how_many_least", none), "how_many_least", "how_many_least", defArgs showUmanyUleast, defBody showUmanyUleast, defScope showUmanyUleast, [], []⟩
def dswaysUat : He.DefD := ⟨("ways_at", none), "ways_at", "ways_at", defArgs swaysUat, defBody swaysUat, defScope swaysUat, [], []⟩
def dsledUby : He.DefD := ⟨("led_by", none), "led_by", "led_by", defArgs sledUby, defBody sledUby, defScope sledUby, [], []⟩
def dsisUpriced : He.DefD := ⟨("is_priced", none), "is_priced", "is_priced", defArgs sisUpriced, defBody sisUpriced, defScope sisUpriced, [], []⟩
def dsisUboard : He.DefD := ⟨("is_board", none), "is_board", "is_board", defArgs sisUboard, defBody sisUboard, defScope sisUboard, [], []⟩
def dsshowsUchanges : He.DefD := ⟨("shows_changes", none), "shows_changes", "shows_changes", defArgs sshowsUchanges, defBody sshowsUchanges, defScope sshowsUchanges, [], []⟩
def dslastUline : He.DefD := ⟨("last_line", none), "last_line", "last_line", defArgs slastUline, defBody slastUline, defScope slastUline, [], []⟩
def dsnearlyUat : He.DefD := ⟨("nearly_at", none), "nearly_at", "nearly_at", defArgs snearlyUat, defBody snearlyUat, defScope snearlyUat, [], []⟩
def dsnearestUin : He.DefD := ⟨("nearest_in", none), "nearest_in", "nearest_in", defArgs snearestUin, defBody snearestUin, defScope snearestUin, [], []⟩
def dsUlawUpot : He.DefD := ⟨("_law_pot", none), "_law_pot", "_law_pot", defArgs sUlawUpot, defBody sUlawUpot, defScope sUlawUpot, [], []⟩
def dsUlawUtake : He.DefD := ⟨("_law_take", none), "_law_take", "_law_take", defArgs sUlawUtake, defBody sUlawUtake, defScope sUlawUtake, [], []⟩
def dsUlawUof : He.DefD := ⟨("_law_of", none), "_law_of", "_law_of", defArgs sUlawUof, defBody sUlawUof, defScope sUlawUof, [], []⟩
def dsUlawUcells : He.DefD := ⟨("_law_cells", none), "_law_cells", "_law_cells", defArgs sUlawUcells, defBody sUlawUcells, defScope sUlawUcells, [], []⟩
def dsUlawUsome : He.DefD := ⟨("_law_some", none), "_law_some", "_law_some", defArgs sUlawUsome, defBody sUlawUsome, defScope sUlawUsome, [], []⟩
def dsUlawUrow : He.DefD := ⟨("_law_row", none), "_law_row", "_law_row", defArgs sUlawUrow, defBody sUlawUrow, defScope sUlawUrow, [], []⟩
def dsUlawUfound : He.DefD := ⟨("_law_found", none), "_law_found", "_law_found", defArgs sUlawUfound, defBody sUlawUfound, defScope sUlawUfound, [], []⟩
def dsUlawUchoose : He.DefD := ⟨("_law_choose", none), "_law_choose", "_law_choose", defArgs sUlawUchoose, defBody sUlawUchoose, defScope sUlawUchoose, [], []⟩
def dsUlawUsteps : He.DefD := ⟨("_law_steps", none), "_law_steps", "_law_steps", defArgs sUlawUsteps, defBody sUlawUsteps, defScope sUlawUsteps, [], []⟩
def dsUlawUisUtold : He.DefD := ⟨("_law_is_told", none), "_law_is_told", "_law_is_told", defArgs sUlawUisUtold, defBody sUlawUisUtold, defScope sUlawUisUtold, [], []⟩
def dsUlawUisUleftUoutUright : He.DefD := ⟨("_law_is_left_out_right", none), "_law_is_left_out_right", "_law_is_left_out_right", defArgs sUlawUisUleftUoutUright, defBody sUlawUisUleftUoutUright, defScope sUlawUisUleftUoutUright, [], []⟩
def dsUlawUisUapartUright : He.DefD := ⟨("_law_is_apart_right", none), "_law_is_apart_right", "_law_is_apart_right", defArgs sUlawUisUapartUright, defBody sUlawUisUapartUright, defScope sUlawUisUapartUright, [], []⟩
def dslaw : He.DefD := ⟨("law", none), "law", "law", defArgs slaw, defBody slaw, defScope slaw, [], []⟩
def fn : List He.DefD := [dsisUinteger, dsisUbetween, dsareUbetween, dsisUtupleUof, dsisUrowUof, dscheckUrow, dsunlikeUof, dsunlike, dsboardUof, dsstepsUback, dscheckUboard, dschangesUtold, dsleastUchanges, dshowUmanyUleast, dswaysUat, dsledUby, dsisUpriced, dsisUboard, dsshowsUchanges, dslastUline, dsnearlyUat, dsnearestUin, dsUlawUpot, dsUlawUtake, dsUlawUof, dsUlawUcells, dsUlawUsome, dsUlawUrow, dsUlawUfound, dsUlawUchoose, dsUlawUsteps, dsUlawUisUtold, dsUlawUisUleftUoutUright, dsUlawUisUapartUright, dslaw]
def fa : List He.Fa := [.glo "is_integer", .glo "is_between", .glo "are_between", .glo "is_tuple_of", .glo "is_row_of", .glo "check_row", .glo "unlike_of", .glo "unlike", .glo "board_of", .glo "steps_back", .glo "check_board", .glo "changes_told", .glo "least_changes", .glo "how_many_least", .glo "ways_at", .glo "led_by", .glo "is_priced", .glo "is_board", .glo "shows_changes", .glo "last_line", .glo "nearly_at", .glo "nearest_in", .glo "_law_pot", .glo "_law_take", .glo "_law_of", .glo "_law_cells", .glo "_law_some", .glo "_law_row", .glo "_law_found", .glo "_law_choose", .glo "_law_steps", .glo "_law_is_told", .glo "_law_is_left_out_right", .glo "_law_is_apart_right", .glo "law", .glo "RowError", .glo "BadMost", .glo "BadRow", .glo "TooLong", .glo "UnlikeLong", .free "abs", .free "all", .free "bool", .free "dict", .free "enumerate", .free "int", .free "isinstance", .free "len", .free "list", .free "max", .free "min", .free "range", .free "repr", .free "sorted", .free "str", .free "sum", .free "tuple", .free "zip", .int "MOST_ROW" 400, .int "MOST_BOARD" 60, .int "THREE" 3, .str "LETTERS" "abcdefghijklmnopqrstuvwxyz", .str "KEEP" "keep", .str "TURN" "turn", .str "PUT" "put", .str "OUT" "out", .glo "STEPS"]
def ex (K : PySem.W.Frag) : Bool := He.tupB K "STEPS" [.str "keep", .str "out", .str "put", .str "turn"]
def loose : List PySem.Str := (["RowError", "BadMost", "BadRow", "TooLong", "UnlikeLong", "LETTERS", "MOST_ROW", "is_integer", "is_between", "are_between", "is_tuple_of", "is_row_of", "check_row", "MOST_BOARD", "KEEP", "TURN"] : List PySem.Str) ++ (["PUT", "OUT", "STEPS", "THREE", "unlike_of", "unlike", "board_of", "steps_back", "check_board", "changes_told", "least_changes", "how_many_least", "ways_at", "led_by", "is_priced", "is_board"] : List PySem.Str) ++ (["shows_changes", "last_line", "nearly_at", "nearest_in", "_law_pot", "_law_take", "_law_of", "_law_cells", "_law_some", "_law_row", "_law_found", "_law_choose", "_law_steps", "_law_is_told", "_law_is_left_out_right", "_law_is_apart_right"] : List PySem.Str)
abbrev lawAt : Nat := 53
abbrev R : PySem.W.OpenRow := PySem.W.OpenLaw.row PySem.Challenge.rw_everyrowhasit_k12_whole_changes_where_le
abbrev hk : PySem.W.Hook := He.hookX 4 fa fn [] [] ex
def ob (s : PySem.W.SharedT) : He.AlX := He.obsX 4 fa fn [] [] ex (HandSHeadRun.getT s)
theorem ob_eq (s : PySem.W.SharedT) : ob s = hk.obs s.abs := He.obsX_eq (HandSHeadRun.getT_eq s)
theorem run (w : World) : HandSHeadRun.RunEq R (PySem.W.view R.prog [lawAt]) hk ob 3000 loose w := by
  intro os
  kernel_rfl
end K12

/-! ## K12End -/
set_option Elab.async false
set_option linter.all false
set_option maxRecDepth 100000
set_option maxHeartbeats 4000000
namespace K12
open PySem PySem.Spec PyProof.Rows L2 JD
section
variable {P : Program} {w : World} {K : PySem.W.Frag} {h h' base : Heap} {mg : PySem.Str → Option Value}
theorem fx_of (X : K.In h) (Gh : h.Ns mainGlobals mg) (c : He.SaysX fa fn [] [] ex w h' K) : Fx ⟨P, w, K, mg, base⟩ where
  f_abs := He.free_ok X Gh (c.t.d.fact 40 (f := .free "abs") rfl)
  f_all := He.free_ok X Gh (c.t.d.fact 41 (f := .free "all") rfl)
  f_bool := He.free_ok X Gh (c.t.d.fact 42 (f := .free "bool") rfl)
  f_dict := He.free_ok X Gh (c.t.d.fact 43 (f := .free "dict") rfl)
  f_enumerate := He.free_ok X Gh (c.t.d.fact 44 (f := .free "enumerate") rfl)
  f_int := He.free_ok X Gh (c.t.d.fact 45 (f := .free "int") rfl)
  f_isinstance := He.free_ok X Gh (c.t.d.fact 46 (f := .free "isinstance") rfl)
  f_len := He.free_ok X Gh (c.t.d.fact 47 (f := .free "len") rfl)
  f_list := He.free_ok X Gh (c.t.d.fact 48 (f := .free "list") rfl)
  f_max := He.free_ok X Gh (c.t.d.fact 49 (f := .free "max") rfl)
  f_min := He.free_ok X Gh (c.t.d.fact 50 (f := .free "min") rfl)
  f_range := He.free_ok X Gh (c.t.d.fact 51 (f := .free "range") rfl)
  f_repr := He.free_ok X Gh (c.t.d.fact 52 (f := .free "repr") rfl)
  f_sorted := He.free_ok X Gh (c.t.d.fact 53 (f := .free "sorted") rfl)
  f_str := He.free_ok X Gh (c.t.d.fact 54 (f := .free "str") rfl)
  f_sum := He.free_ok X Gh (c.t.d.fact 55 (f := .free "sum") rfl)
  f_tuple := He.free_ok X Gh (c.t.d.fact 56 (f := .free "tuple") rfl)
  f_zip := He.free_ok X Gh (c.t.d.fact 57 (f := .free "zip") rfl)
  i_MOST_ROW := He.int_ok X Gh (c.t.d.fact 58 (f := .int "MOST_ROW" 400) rfl)
  i_MOST_BOARD := He.int_ok X Gh (c.t.d.fact 59 (f := .int "MOST_BOARD" 60) rfl)
  i_THREE := He.int_ok X Gh (c.t.d.fact 60 (f := .int "THREE" 3) rfl)
  s_LETTERS := He.str_ok X Gh (c.t.d.fact 61 (f := .str "LETTERS" "abcdefghijklmnopqrstuvwxyz") rfl)
  s_KEEP := He.str_ok X Gh (c.t.d.fact 62 (f := .str "KEEP" "keep") rfl)
  s_TURN := He.str_ok X Gh (c.t.d.fact 63 (f := .str "TURN" "turn") rfl)
  s_PUT := He.str_ok X Gh (c.t.d.fact 64 (f := .str "PUT" "put") rfl)
  s_OUT := He.str_ok X Gh (c.t.d.fact 65 (f := .str "OUT" "out") rfl)
  t_STEPS := ⟨_, He.glo_ok X Gh (c.t.d.fact 66 (f := .glo "STEPS") rfl), fun H => .tup (He.tupB_ok c.more H) (DpAll.ofStrs ["keep", "out", "put", "turn"])⟩
theorem as_of (X : K.In h) (Gh : h.Ns mainGlobals mg) (c : He.SaysX fa fn [] [] ex w h' K) : As ⟨P, w, K, mg, base⟩ where
  a_is_integer := let ⟨fd, F⟩ := c.t.d.def_ 0 (d := dsisUinteger) rfl; ⟨_, fd, F, He.glo_ok X Gh (c.t.d.fact 0 (f := .glo "is_integer") rfl)⟩
  a_is_between := let ⟨fd, F⟩ := c.t.d.def_ 1 (d := dsisUbetween) rfl; ⟨_, fd, F, He.glo_ok X Gh (c.t.d.fact 1 (f := .glo "is_between") rfl)⟩
  a_are_between := let ⟨fd, F⟩ := c.t.d.def_ 2 (d := dsareUbetween) rfl; ⟨_, fd, F, He.glo_ok X Gh (c.t.d.fact 2 (f := .glo "are_between") rfl)⟩
  a_is_tuple_of := let ⟨fd, F⟩ := c.t.d.def_ 3 (d := dsisUtupleUof) rfl; ⟨_, fd, F, He.glo_ok X Gh (c.t.d.fact 3 (f := .glo "is_tuple_of") rfl)⟩
  a_is_row_of := let ⟨fd, F⟩ := c.t.d.def_ 4 (d := dsisUrowUof) rfl; ⟨_, fd, F, He.glo_ok X Gh (c.t.d.fact 4 (f := .glo "is_row_of") rfl)⟩
  a_check_row := let ⟨fd, F⟩ := c.t.d.def_ 5 (d := dscheckUrow) rfl; ⟨_, fd, F, He.glo_ok X Gh (c.t.d.fact 5 (f := .glo "check_row") rfl)⟩
  a_unlike_of := let ⟨fd, F⟩ := c.t.d.def_ 6 (d := dsunlikeUof) rfl; ⟨_, fd, F, He.glo_ok X Gh (c.t.d.fact 6 (f := .glo "unlike_of") rfl)⟩
  a_unlike := let ⟨fd, F⟩ := c.t.d.def_ 7 (d := dsunlike) rfl; ⟨_, fd, F, He.glo_ok X Gh (c.t.d.fact 7 (f := .glo "unlike") rfl)⟩
  a_board_of := let ⟨fd, F⟩ := c.t.d.def_ 8 (d := dsboardUof) rfl; ⟨_, fd, F, He.glo_ok X Gh (c.t.d.fact 8 (f := .glo "board_of") rfl)⟩
  a_steps_back := let ⟨fd, F⟩ := c.t.d.def_ 9 (d := dsstepsUback) rfl; ⟨_, fd, F, He.glo_ok X Gh (c.t.d.fact 9 (f := .glo "steps_back") rfl)⟩
  a_check_board := let ⟨fd, F⟩ := c.t.d.def_ 10 (d := dscheckUboard) rfl; ⟨_, fd, F, He.glo_ok X Gh (c.t.d.fact 10 (f := .glo "check_board") rfl)⟩
  a_changes_told := let ⟨fd, F⟩ := c.t.d.def_ 11 (d := dschangesUtold) rfl; ⟨_, fd, F, He.glo_ok X Gh (c.t.d.fact 11 (f := .glo "changes_told") rfl)⟩
  a_least_changes := let ⟨fd, F⟩ := c.t.d.def_ 12 (d := dsleastUchanges) rfl; ⟨_, fd, F, He.glo_ok X Gh (c.t.d.fact 12 (f := .glo "least_changes") rfl)⟩
  a_how_many_least := let ⟨fd, F⟩ := c.t.d.def_ 13 (d := dshowUmanyUleast) rfl; ⟨_, fd, F, He.glo_ok X Gh (c.t.d.fact 13 (f := .glo "how_many_least") rfl)⟩
  a_ways_at := let ⟨fd, F⟩ := c.t.d.def_ 14 (d := dswaysUat) rfl; ⟨_, fd, F, He.glo_ok X Gh (c.t.d.fact 14 (f := .glo "ways_at") rfl)⟩
  a_led_by := let ⟨fd, F⟩ := c.t.d.def_ 15 (d := dsledUby) rfl; ⟨_, fd, F, He.glo_ok X Gh (c.t.d.fact 15 (f := .glo "led_by") rfl)⟩
  a_is_priced := let ⟨fd, F⟩ := c.t.d.def_ 16 (d := dsisUpriced) rfl; ⟨_, fd, F, He.glo_ok X Gh (c.t.d.fact 16 (f := .glo "is_priced") rfl)⟩
  a_is_board := let ⟨fd, F⟩ := c.t.d.def_ 17 (d := dsisUboard) rfl; ⟨_, fd, F, He.glo_ok X Gh (c.t.d.fact 17 (f := .glo "is_board") rfl)⟩
  a_shows_changes := let ⟨fd, F⟩ := c.t.d.def_ 18 (d := dsshowsUchanges) rfl; ⟨_, fd, F, He.glo_ok X Gh (c.t.d.fact 18 (f := .glo "shows_changes") rfl)⟩
  a_last_line := let ⟨fd, F⟩ := c.t.d.def_ 19 (d := dslastUline) rfl; ⟨_, fd, F, He.glo_ok X Gh (c.t.d.fact 19 (f := .glo "last_line") rfl)⟩
  a_nearly_at := let ⟨fd, F⟩ := c.t.d.def_ 20 (d := dsnearlyUat) rfl; ⟨_, fd, F, He.glo_ok X Gh (c.t.d.fact 20 (f := .glo "nearly_at") rfl)⟩
  a_nearest_in := let ⟨fd, F⟩ := c.t.d.def_ 21 (d := dsnearestUin) rfl; ⟨_, fd, F, He.glo_ok X Gh (c.t.d.fact 21 (f := .glo "nearest_in") rfl)⟩
  a__law_pot := let ⟨fd, F⟩ := c.t.d.def_ 22 (d := dsUlawUpot) rfl; ⟨_, fd, F, He.glo_ok X Gh (c.t.d.fact 22 (f := .glo "_law_pot") rfl)⟩
  a__law_take := let ⟨fd, F⟩ := c.t.d.def_ 23 (d := dsUlawUtake) rfl; ⟨_, fd, F, He.glo_ok X Gh (c.t.d.fact 23 (f := .glo "_law_take") rfl)⟩
  a__law_of := let ⟨fd, F⟩ := c.t.d.def_ 24 (d := dsUlawUof) rfl; ⟨_, fd, F, He.glo_ok X Gh (c.t.d.fact 24 (f := .glo "_law_of") rfl)⟩
  a__law_cells := let ⟨fd, F⟩ := c.t.d.def_ 25 (d := dsUlawUcells) rfl; ⟨_, fd, F, He.glo_ok X Gh (c.t.d.fact 25 (f := .glo "_law_cells") rfl)⟩
  a__law_some := let ⟨fd, F⟩ := c.t.d.def_ 26 (d := dsUlawUsome) rfl; ⟨_, fd, F, He.glo_ok X Gh (c.t.d.fact 26 (f := .glo "_law_some") rfl)⟩
  a__law_row := let ⟨fd, F⟩ := c.t.d.def_ 27 (d := dsUlawUrow) rfl; ⟨_, fd, F, He.glo_ok X Gh (c.t.d.fact 27 (f := .glo "_law_row") rfl)⟩
  a__law_found := let ⟨fd, F⟩ := c.t.d.def_ 28 (d := dsUlawUfound) rfl; ⟨_, fd, F, He.glo_ok X Gh (c.t.d.fact 28 (f := .glo "_law_found") rfl)⟩
  a__law_choose := let ⟨fd, F⟩ := c.t.d.def_ 29 (d := dsUlawUchoose) rfl; ⟨_, fd, F, He.glo_ok X Gh (c.t.d.fact 29 (f := .glo "_law_choose") rfl)⟩
  a__law_steps := let ⟨fd, F⟩ := c.t.d.def_ 30 (d := dsUlawUsteps) rfl; ⟨_, fd, F, He.glo_ok X Gh (c.t.d.fact 30 (f := .glo "_law_steps") rfl)⟩
  a__law_is_told := let ⟨fd, F⟩ := c.t.d.def_ 31 (d := dsUlawUisUtold) rfl; ⟨_, fd, F, He.glo_ok X Gh (c.t.d.fact 31 (f := .glo "_law_is_told") rfl)⟩
  a__law_is_left_out_right := let ⟨fd, F⟩ := c.t.d.def_ 32 (d := dsUlawUisUleftUoutUright) rfl; ⟨_, fd, F, He.glo_ok X Gh (c.t.d.fact 32 (f := .glo "_law_is_left_out_right") rfl)⟩
  a__law_is_apart_right := let ⟨fd, F⟩ := c.t.d.def_ 33 (d := dsUlawUisUapartUright) rfl; ⟨_, fd, F, He.glo_ok X Gh (c.t.d.fact 33 (f := .glo "_law_is_apart_right") rfl)⟩
  a_law := let ⟨fd, F⟩ := c.t.d.def_ 34 (d := dslaw) rfl; ⟨_, fd, F, He.glo_ok X Gh (c.t.d.fact 34 (f := .glo "law") rfl)⟩
end
end K12
open PySem PySem.W PySem.Calls PyProof.Rows
theorem PySem.Challenge.cw_everyrowhasit_k12_whole_changes_where_le_holds : PySem.Challenge.rw_everyrowhasit_k12_whole_changes_where_le.Holds := by
  w_on; o_law
  refine HandSHeadRun.head_any (r := OpenLaw.row PySem.Challenge.rw_everyrowhasit_k12_whole_changes_where_le) (q := view (OpenLaw.row PySem.Challenge.rw_everyrowhasit_k12_whole_changes_where_le).prog [K12.lawAt]) (H := K12.hk) (ob := K12.ob) (M := 3000) (loose := K12.loose) (d := HandSHeadRun.topDef (OpenLaw.row PySem.Challenge.rw_everyrowhasit_k12_whole_changes_where_le).prog K12.lawAt) (kwd := []) K12.ob_eq
    (by kernel_rfl) (fun s => by kernel_rfl) K12.run (by kernel_rfl) (by kernel_rfl) (by kernel_rfl) (by rfl) (by first | assumption | decide +kernel) (by decide +kernel) ⟨rfl, rfl, rfl, rfl, rfl, by decide +kernel⟩ ?hw ?hc
  case hw => w_witness2
  case hc =>
    refine JD.walk_ofG (l := PySem.Challenge.rw_everyrowhasit_k12_whole_changes_where_le) (n := 63) (k := 8) (x := "script") (R := K12.R_law) (π := ⟨0, 0, 0⟩) rfl (by decide) (by kernel_rfl) ⟨rfl, by decide, by decide⟩ (fun ns _ => ⟨ns, rfl, rfl, rfl⟩) ?F
    intro w mg h Y G
    obtain ⟨K, KX, c⟩ := Y
    refine ⟨K, KX, fun base hK hM => ?_⟩
    have e : (HandSHeadRun.topDef (OpenLaw.row PySem.Challenge.rw_everyrowhasit_k12_whole_changes_where_le).prog K12.lawAt).name = ("law" : PySem.Str) := by kernel_rfl
    rw [e]
    exact K12.D_law (K12.fx_of KX G c) (K12.as_of KX G c)
