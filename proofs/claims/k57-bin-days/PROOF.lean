import PyProof.Rows.All
import Wide.All
import OpenK.AllK
import Wide.FinOn
import HandS.ForMost
import HandS.Deep
import HandS.Flow
import HandS.Wide
import HandS.Style
import HandS.TupAny
import HandS.TupMul
import HandS.IsInst
import HandS.Conv
import HandS.Zip
import HandS.Walk
import KE.DataAny
import KE.DataFind
import KE.DataIsa
import KE.SortData
import KE.DatumIndex
import HandS.Set
import HandS.Strs
import PyProof.Rows.SetFrom
import KE.GoesEnum
import KE.GoesMore
import KE.DatumOrd
import PySem.Challenge.RW_streetsswept_k57_whole_bin_days
set_option Elab.async false
set_option linter.all false
set_option maxRecDepth 100000
set_option maxHeartbeats 8000000
/-! DD1: data that a heap bears, with some addresses hidden; the relation between slots and pure data. -/
namespace DD
open PySem PySem.Spec PyProof.Rows L2

abbrev D := PyData
abbrev ASet := Addr → Prop

/-- the heap without the addresses of O -/
noncomputable def hid (O : ASet) (H : Hp) : Hp := fun b => @ite _ (O b) (Classical.propDecidable _) none (H b)
theorem hid_some {O : ASet} {H : Hp} {b : Addr} {o : HO} : hid O H b = some o ↔ ¬ O b ∧ H b = some o := by
  unfold hid
  split
  · rename_i h; exact ⟨fun e => (by cases e), fun e => absurd h e.1⟩
  · rename_i h; exact ⟨fun e => ⟨h, e⟩, fun e => e.2⟩
/-- all that stands in H stands in H' -/
def Sub (H H' : Hp) : Prop := ∀ b o, H b = some o → H' b = some o
theorem Sub.refl (H : Hp) : Sub H H := fun _ _ h => h
theorem Sub.trans {H H1 H2 : Hp} (a : Sub H H1) (b : Sub H1 H2) : Sub H H2 := fun x o h => b x o (a x o h)
theorem hid_sub {O : ASet} {H : Hp} : Sub (hid O H) H := fun _ _ e => (hid_some.mp e).2
/-- all but F is kept -/
def Ext (F : ASet) (H H' : Hp) : Prop := ∀ b o, H b = some o → ¬ F b → H' b = some o
theorem Ext.refl (F : ASet) (H : Hp) : Ext F H H := fun _ _ h _ => h
theorem Ext.trans {F : ASet} {H H1 H2 : Hp} (a : Ext F H H1) (b : Ext F H1 H2) : Ext F H H2 := fun x o h n => b x o (a x o h n) n
theorem Ext.mono {F F' : ASet} {H H' : Hp} (e : Ext F H H') (h : ∀ b, F b → F' b) : Ext F' H H' := fun b o q n => e b o q fun z => n (h b z)
theorem Sub.ext {F : ASet} {H H' : Hp} (e : Sub H H') : Ext F H H' := fun b o q _ => e b o q
theorem Ext.hid {O F : ASet} {H H' : Hp} (e : Ext F H H') (h : ∀ b, F b → O b) : Sub (hid O H) (hid O H') := fun b o q => by
  obtain ⟨n, q⟩ := hid_some.mp q
  exact hid_some.mpr ⟨n, e b o q fun z => n (h b z)⟩
theorem hid_anti {O O' : ASet} {H : Hp} (h : ∀ b, O b → O' b) : Sub (hid O' H) (hid O H) := fun b o q => by
  obtain ⟨n, q⟩ := hid_some.mp q
  exact hid_some.mpr ⟨fun z => n (h b z), q⟩
theorem Sub.new {H : Hp} {p : Addr} {o : HO} (h : H p = none) : Sub H (upd H p o) := fun b u e => by
  rw [upd_ne (ne_of_none e h)]; exact e

theorem rd_sub {H H' : Hp} {a : Addr} {u : HO} (e : Sub H H') (h : Rd H a u) : Rd H' a u := by
  rcases h with h | ⟨o, h⟩
  · exact .inl (e a _ h)
  · exact .inr ⟨o, e a _ h⟩
theorem sql_sub {K : PySem.W.Frag} {H H' : Hp} {a : Addr} {xs : List V} (e : Sub H H') (h : SqL K H a xs) : SqL K H' a xs := by
  rcases h with h | h
  · exact .inl (rd_sub e h)
  · exact .inr h
theorem sqt_sub {K : PySem.W.Frag} {H H' : Hp} {a : Addr} {xs : List V} (e : Sub H H') (h : SqT K H a xs) : SqT K H' a xs := by
  rcases h with h | h
  · exact .inl (rd_sub e h)
  · exact .inr h
mutual
/-- the value v stands for d -/
inductive Dd (K : PySem.W.Frag) (H : Hp) : V → D → Prop
  | non : Dd K H .non .none
  | bl (b : Bool) : Dd K H (.bl b) (.bool b)
  | int (i : Int) : Dd K H (.int i) (.int i)
  | str (x : Str) : Dd K H (.str x) (.str x)
  | lst {a : Addr} {xs : List V} {ds : List D} : H a = some (.lst xs) → DdAll K H xs ds → Dd K H (.ref a) (.list ds)
  | tup {a : Addr} {xs : List V} {ds : List D} : SqT K H a xs → DdAll K H xs ds → Dd K H (.ref a) (.tuple ds)
inductive DdAll (K : PySem.W.Frag) (H : Hp) : List V → List D → Prop
  | nil : DdAll K H [] []
  | cons {v : V} {vs : List V} {d : D} {ds : List D} : Dd K H v d → DdAll K H vs ds → DdAll K H (v :: vs) (d :: ds)
end
mutual
theorem dp_sub {K : PySem.W.Frag} {H H' : Hp} (e : Sub H H') : ∀ {d : D} {v : V}, Dd K H v d → Dd K H' v d
  | .none, _, .non => .non
  | .bool b, _, .bl _ => .bl b
  | .int i, _, .int _ => .int i
  | .str x, _, .str _ => .str x
  | .list ds, _, .lst h1 h2 => .lst (e _ _ h1) (dpall_sub e h2)
  | .tuple ds, _, .tup h1 h2 => .tup (sqt_sub e h1) (dpall_sub e h2)
theorem dpall_sub {K : PySem.W.Frag} {H H' : Hp} (e : Sub H H') : ∀ {ds : List D} {vs : List V}, DdAll K H vs ds → DdAll K H' vs ds
  | [], _, .nil => .nil
  | _ :: _, _, .cons h1 h2 => .cons (dp_sub e h1) (dpall_sub e h2)
end
mutual
theorem Dd.dp {K : PySem.W.Frag} {H : Hp} : ∀ {d : D} {v : V}, Dd K H v d → Dp K H v d
  | .none, _, .non => .non
  | .bool b, _, .bl _ => .bl b
  | .int i, _, .int _ => .int i
  | .str x, _, .str _ => .str x
  | .list ds, _, .lst h1 h2 => .lst (SqL.of h1) (DdAll.dp h2)
  | .tuple ds, _, .tup h1 h2 => .tup h1 (DdAll.dp h2)
theorem DdAll.dp {K : PySem.W.Frag} {H : Hp} : ∀ {ds : List D} {vs : List V}, DdAll K H vs ds → DpAll K H vs ds
  | [], _, .nil => .nil
  | _ :: _, _, .cons h1 h2 => .cons (Dd.dp h1) (DdAll.dp h2)
end
theorem dpa_len {K : PySem.W.Frag} {H : Hp} : ∀ {ds : List D} {vs : List V}, DdAll K H vs ds → vs.length = ds.length
  | [], _, .nil => rfl
  | _ :: _, _, .cons _ h2 => by rw [List.length_cons, List.length_cons, dpa_len h2]
theorem dpa_append {K : PySem.W.Frag} {H : Hp} : ∀ {ds es : List D} {vs ws : List V}, DdAll K H vs ds → DdAll K H ws es → DdAll K H (vs ++ ws) (ds ++ es)
  | [], _, _, _, .nil, h => h
  | _ :: _, _, _, _, .cons h1 h2, h => .cons h1 (dpa_append h2 h)
theorem dpa_get {K : PySem.W.Frag} {H : Hp} : ∀ {ds : List D} {vs : List V} {i : Nat} {d : D}, DdAll K H vs ds → ds[i]? = some d → ∃ v, vs[i]? = some v ∧ Dd K H v d
  | [], _, _, _, .nil, h => by simp at h
  | _ :: _, _, 0, _, .cons h1 _, h => by simp at h; subst h; exact ⟨_, rfl, h1⟩
  | _ :: _, _, i + 1, _, .cons _ h2, h => by
    obtain ⟨v, e, q⟩ := dpa_get h2 (by simpa using h)
    exact ⟨v, by simpa using e, q⟩
theorem dpa_getV {K : PySem.W.Frag} {H : Hp} {ds : List D} {vs : List V} {i : Nat} {v : V} (h : DdAll K H vs ds) (e : vs[i]? = some v) : ∃ d, ds[i]? = some d ∧ Dd K H v d := by
  have hl := dpa_len h
  have hi : i < vs.length := (List.getElem?_eq_some_iff.mp e).1
  have hd : i < ds.length := by omega
  obtain ⟨v', e', q⟩ := dpa_get h (List.getElem?_eq_getElem hd)
  rw [e] at e'; cases e'
  exact ⟨_, List.getElem?_eq_getElem hd, q⟩
theorem dpa_set {K : PySem.W.Frag} {H : Hp} : ∀ {ds : List D} {vs : List V} {i : Nat} {v : V} {d : D}, DdAll K H vs ds → Dd K H v d → DdAll K H (vs.set i v) (ds.set i d)
  | [], _, _, _, _, .nil, _ => .nil
  | _ :: _, _, 0, _, _, .cons _ h2, h => .cons h h2
  | _ :: _, _, i + 1, _, _, .cons h1 h2, h => .cons h1 (dpa_set h2 h)
theorem dpa_take {K : PySem.W.Frag} {H : Hp} : ∀ {ds : List D} {vs : List V} (n : Nat), DdAll K H vs ds → DdAll K H (vs.take n) (ds.take n)
  | _, _, 0, _ => .nil
  | [], _, _ + 1, .nil => .nil
  | _ :: _, _, n + 1, .cons h1 h2 => .cons h1 (dpa_take n h2)
theorem dpa_drop {K : PySem.W.Frag} {H : Hp} : ∀ {ds : List D} {vs : List V} (n : Nat), DdAll K H vs ds → DdAll K H (vs.drop n) (ds.drop n)
  | _, _, 0, h => h
  | [], _, _ + 1, .nil => .nil
  | _ :: _, _, n + 1, .cons _ h2 => dpa_drop n h2
theorem dpa_reverse {K : PySem.W.Frag} {H : Hp} : ∀ {ds : List D} {vs : List V}, DdAll K H vs ds → DdAll K H vs.reverse ds.reverse
  | [], _, .nil => .nil
  | _ :: _, _, .cons h1 h2 => by rw [List.reverse_cons, List.reverse_cons]; exact dpa_append (dpa_reverse h2) (.cons h1 .nil)
theorem dpa_eraseIdx {K : PySem.W.Frag} {H : Hp} : ∀ {ds : List D} {vs : List V} {i : Nat}, DdAll K H vs ds → DdAll K H (vs.eraseIdx i) (ds.eraseIdx i)
  | [], _, _, .nil => .nil
  | _ :: _, _, 0, .cons _ h2 => h2
  | _ :: _, _, i + 1, .cons h1 h2 => .cons h1 (dpa_eraseIdx h2)
theorem dpa_one {K : PySem.W.Frag} {H : Hp} {v : V} {d : D} (h : Dd K H v d) : DdAll K H [v] [d] := .cons h .nil

/-- data whose parts stand in Hh, it itself in H -/
inductive Dc (K : PySem.W.Frag) (Hh H : Hp) : V → D → Prop
  | non : Dc K Hh H .non .none
  | bl (b : Bool) : Dc K Hh H (.bl b) (.bool b)
  | int (i : Int) : Dc K Hh H (.int i) (.int i)
  | str (x : Str) : Dc K Hh H (.str x) (.str x)
  | lst {a : Addr} {xs : List V} {ds : List D} : H a = some (.lst xs) → DdAll K Hh xs ds → Dc K Hh H (.ref a) (.list ds)
  | tup {a : Addr} {xs : List V} {ds : List D} : SqT K Hh a xs → DdAll K Hh xs ds → Dc K Hh H (.ref a) (.tuple ds)
theorem dc_of {K : PySem.W.Frag} {Hh H : Hp} (e : Sub Hh H) {v : V} {d : D} (h : Dd K Hh v d) : Dc K Hh H v d := by
  cases h with
  | non => exact .non
  | bl b => exact .bl b
  | int i => exact .int i
  | str x => exact .str x
  | lst a b => exact .lst (e _ _ a) b
  | tup a b => exact .tup a b
theorem Dc.dd {K : PySem.W.Frag} {Hh H : Hp} (e : Sub Hh H) {v : V} {d : D} (h : Dc K Hh H v d) : Dd K H v d := by
  cases h with
  | non => exact .non
  | bl b => exact .bl b
  | int i => exact .int i
  | str x => exact .str x
  | lst a b => exact .lst a (dpall_sub e b)
  | tup a b => exact .tup (sqt_sub e a) (dpall_sub e b)

/-! ### slots -/
/-- what a slot holds: data that nobody changes; a list of the frame's own, that it may change; the law's box -/
inductive Vl where
  | d (x : D) | own (x : D) | box | scr
abbrev En := List (Option Vl)

/-- at a stands the frame's own list -/
def OwnAt (K : PySem.W.Frag) (Hh H : Hp) (a : Addr) (x : D) : Prop := ∃ ds vs, x = .list ds ∧ H a = some (.lst vs) ∧ DdAll K Hh vs ds
theorem OwnAt.dc {K : PySem.W.Frag} {Hh H : Hp} {a : Addr} {x : D} (h : OwnAt K Hh H a x) : Dc K Hh H (.ref a) x := by
  obtain ⟨ds, vs, rfl, e, q⟩ := h
  exact .lst e q

/-- the box: two addresses, and what holds of them -/
structure BoxI where
  ok : Hp → Addr → Addr → Prop
  loc : ∀ {H H' : Hp} {B C : Addr}, ok H B C → H' B = H B → H' C = H C → ok H' B C
  trk : ∀ {H : Hp} {B C : Addr}, ok H B C → H B ≠ none ∧ H C ≠ none
abbrev Bx := Option (Addr × Addr)
def isBx (bx : Bx) (b : Addr) : Prop := ∃ B C, bx = some (B, C) ∧ (b = B ∨ b = C)

structure Rel (K : PySem.W.Frag) (BI : BoxI) (Oe F : ASet) (bx : Bx) (σ : L2.St) (H : Hp) (ρ : En) : Prop where
  len : ρ.length = σ.length
  dat : ∀ (i : Nat) (x : D), ρ[i]? = some (some (.d x)) → ∃ v, σ[i]? = some (some v) ∧ Dd K (hid (fun b => Oe b ∨ F b) H) v x
  own : ∀ (i : Nat) (x : D), ρ[i]? = some (some (.own x)) → ∃ a, σ[i]? = some (some (.ref a)) ∧ F a ∧ ¬ isBx bx a ∧ OwnAt K (hid (fun b => Oe b ∨ F b) H) H a x
  sep : ∀ (i j : Nat) (x y : D), i ≠ j → ρ[i]? = some (some (.own x)) → ρ[j]? = some (some (.own y)) → σ[i]? ≠ σ[j]?
  box : ∀ (i : Nat), ρ[i]? = some (some .box) → ∃ B C, bx = some (B, C) ∧ σ[i]? = some (some (.ref B))
  scr : ∀ (i : Nat), ρ[i]? = some (some .scr) → ∃ (a : Addr) (ns : List Int), σ[i]? = some (some (.ref a)) ∧ SqL K (hid (fun b => Oe b ∨ F b) H) a (ns.map V.int) ∧ ns.length ≤ 63
  bok : ∀ B C, bx = some (B, C) → F B ∧ F C ∧ BI.ok H B C
  trk : ∀ b, Oe b ∨ F b → H b ≠ none
  dis : ∀ b, Oe b → ¬ F b
section
variable {K : PySem.W.Frag} {BI : BoxI} {Oe F : ASet} {bx : Bx} {σ : L2.St} {H H' : Hp} {ρ : En}
/-- the heap has grown -/
theorem Rel.sub (r : Rel K BI Oe F bx σ H ρ) (e : Sub H H') : Rel K BI Oe F bx σ H' ρ := by
  have hh : Sub (hid (fun b => Oe b ∨ F b) H) (hid (fun b => Oe b ∨ F b) H') := fun b o q => by
    obtain ⟨n, q⟩ := hid_some.mp q
    exact hid_some.mpr ⟨n, e b o q⟩
  have keep : ∀ b, H b ≠ none → H' b = H b := fun b n => by
    cases q : H b with
    | none => exact absurd q n
    | some o => exact e b o q
  refine ⟨r.len, fun i x q => ?_, fun i x q => ?_, r.sep, r.box, fun i q => ?_, fun B C q => ?_, fun b q => ?_, r.dis⟩
  · obtain ⟨v, h1, h2⟩ := r.dat i x q
    exact ⟨v, h1, dp_sub hh h2⟩
  · obtain ⟨a, h1, h2, h3, ds, vs, h4, h5, h6⟩ := r.own i x q
    exact ⟨a, h1, h2, h3, ds, vs, h4, e a _ h5, dpall_sub hh h6⟩
  · obtain ⟨a, ns, h1, h2, h3⟩ := r.scr i q
    exact ⟨a, ns, h1, sql_sub hh h2, h3⟩
  · obtain ⟨h1, h2, h3⟩ := r.bok B C q
    have t := BI.trk h3
    exact ⟨h1, h2, BI.loc h3 (keep B t.1) (keep C t.2)⟩
  · rw [keep b (r.trk b q)]; exact r.trk b q
theorem Rel.fresh (r : Rel K BI Oe F bx σ H ρ) {p : Addr} (h : H p = none) : ¬ Oe p ∧ ¬ F p := ⟨fun z => r.trk p (.inl z) h, fun z => r.trk p (.inr z) h⟩
/-- one more address is off limits -/
theorem Rel.more (r : Rel K BI Oe F bx σ H ρ) {p : Addr} {o : HO} (h : H p = none) : Rel K BI (fun b => Oe b ∨ b = p) F bx σ (upd H p o) ρ := by
  have hh : Sub (hid (fun b => Oe b ∨ F b) H) (hid (fun b => (Oe b ∨ b = p) ∨ F b) (upd H p o)) := fun b u q => by
    obtain ⟨n, q⟩ := hid_some.mp q
    refine hid_some.mpr ⟨?_, Sub.new h b u q⟩
    rintro ((z | z) | z)
    · exact n (.inl z)
    · exact ne_of_none q h z
    · exact n (.inr z)
  have r' := r.sub (Sub.new (o := o) h)
  refine ⟨r.len, fun i x q => ?_, fun i x q => ?_, r.sep, r.box, fun i q => ?_, r'.bok, fun b q => ?_, fun b q => ?_⟩
  · obtain ⟨v, h1, h2⟩ := r.dat i x q
    exact ⟨v, h1, dp_sub hh h2⟩
  · obtain ⟨a, h1, h2, h3, ds, vs, h4, h5, h6⟩ := r.own i x q
    exact ⟨a, h1, h2, h3, ds, vs, h4, Sub.new h a _ h5, dpall_sub hh h6⟩
  · obtain ⟨a, ns, h1, h2, h3⟩ := r.scr i q
    exact ⟨a, ns, h1, sql_sub hh h2, h3⟩
  · rcases q with (q | q) | q
    · exact r'.trk b (.inl q)
    · rw [q, upd_same]; exact fun z => by cases z
    · exact r'.trk b (.inr q)
  · rcases q with q | q
    · exact r.dis b q
    · rw [q]; exact (r.fresh h).2
end
end DD

/-! SG: sets of keys of any kind (ints, texts): add, set(list), the sorted list of a set. -/
namespace SG
open PySem PySem.Spec PyProof.Rows L2
section
variable {P : Program} {w : World} {K : Type} [DecidableEq K] [Inhabited K]
open Classical in
/-- the key of an element -/
noncomputable def kyG (knd : PySem.KeyKind P w K) (e : Int × Value) : K := if h : ∃ k, knd.is k e.2 = true then h.choose else default
def Gd (knd : PySem.KeyKind P w K) (e : Int × Value) : Prop := (∃ k, knd.is k e.2 = true ∧ e.1 = knd.hash k) ∧ e.2.scannable = true
variable {knd : PySem.KeyKind P w K}
theorem kyG_is {e : Int × Value} (g : Gd knd e) (k : K) : knd.is k e.2 = true ↔ kyG knd e = k := by
  obtain ⟨⟨k0, h0, _⟩, _⟩ := g
  have hx : ∃ k, knd.is k e.2 = true := ⟨k0, h0⟩
  unfold kyG
  rw [dif_pos hx]
  exact ⟨fun q => knd.inj e.2 _ _ hx.choose_spec q, fun q => by rw [← q]; exact hx.choose_spec⟩
theorem kyG_mem {l : List (Int × Value)} (g : ∀ e ∈ l, Gd knd e) (k : K) : k ∈ l.map (kyG knd) ↔ ∃ e ∈ l, knd.is k e.2 = true := by
  rw [List.mem_map]
  exact ⟨fun ⟨e, he, q⟩ => ⟨e, he, (kyG_is (g e he) k).2 q⟩, fun ⟨e, he, q⟩ => ⟨e, he, (kyG_is (g e he) k).1 q⟩⟩
/-- the set at a: S its members, n their number; its table rises and can be walked -/
def StG (knd : PySem.KeyKind P w K) (h : Heap) (a : Addr) (S : K → Bool) (n : Nat) : Prop :=
  ∃ o es ep t, h.get? a = some o ∧ o.ExactSet ∧ o.data = .set es ep t ∧ (∀ e ∈ es.toList, Gd knd e) ∧ (es.toList.map (kyG knd)).Nodup ∧ (∀ k, S k = true ↔ k ∈ es.toList.map (kyG knd)) ∧
    es.size < scanBound ∧ t.fits es.size = true ∧ es.size = n ∧ Ris t.place.toList ∧ (w.params.followText "set-order" = true ∨ t.led = true)
theorem StG.at {h h' : Heap} {a : Addr} {S : K → Bool} {n : Nat} (R : StG knd h a S n) (k : ∀ o, h.get? a = some o → h'.get? a = some o) : StG knd h' a S n := by
  obtain ⟨o, es, ep, t, ho, r⟩ := R
  exact ⟨o, es, ep, t, k o ho, r⟩
theorem StG.congr {h : Heap} {a : Addr} {S S' : K → Bool} {n n' : Nat} (R : StG knd h a S n) (e : ∀ k, S' k = S k) (en : n' = n) : StG knd h a S' n' := by
  rw [show S' = S from funext e, en]; exact R
theorem elems_of {l : List (Int × Value)} (g : ∀ e ∈ l, Gd knd e) : ElemsOf knd l := fun e he => g e he
variable {A : Around} {E : Value → Shared → Prop} {s : Shared} {a : Addr} {S : K → Bool} {n : Nat}
theorem tailG {g : Bool → Sem Unit} (hg : ∀ (b : Bool) (s₁ : Shared) (Q' : Unit → Shared → Prop), Q' () s₁ → wpAny (model P w) A (g b) Q' E s₁)
    {o : Obj} {es es1 : Array (Int × Value)} {ep : Nat} {t t2 : SetTable} {S' : K → Bool} (ho : s.heap.get? a = some o) (hex : o.ExactSet) (hd : o.data = .set es ep t)
    (g1 : ∀ e ∈ es1.toList, Gd knd e) (nd1 : (es1.toList.map (kyG knd)).Nodup) (m1 : ∀ k, S' k = true ↔ k ∈ es1.toList.map (kyG knd)) (hb1 : es1.size < scanBound) (hf2 : t2.fits es1.size = true)
    (hr : Ris t2.place.toList) (hl : w.params.followText "set-order" = true ∨ t2.led = true) {wasDummy : Bool} {R : Option Bool → Shared → Prop} (hR : ∀ h', Heap.SameBut a s.heap h' → StG knd h' a S' es1.size → R (some true) { s with heap := h' }) :
    wpAny (model P w) A (do
        storeSet a es1 t2
        if (!wasDummy && t2.tooFull) = true then do
            g (relayAll t2 es1 (SetTable.grown es1.size)).2.2
            storeSet a (relayAll t2 es1 (SetTable.grown es1.size)).1 (relayAll t2 es1 (SetTable.grown es1.size)).2.1
            pure (some true)
          else pure (some true)) R E s := by
  refine wpAny_bind (wpAny_storeSet_of ho hd ?_ (fits_of_scanBound hb1))
  have ho1 := store_at (es' := es1) (t' := t2) ho hd
  have sb1 := Heap.SameBut.update s.heap a (Obj.putSet es1 t2)
  split
  · have pm := relayAll_perm t2 es1 (SetTable.grown es1.size)
    have hf3 := relayAll_fits t2 es1 (SetTable.grown es1.size)
    have hr3 := relayAll_ris t2 es1 (SetTable.grown es1.size)
    have hl3 := relayAll_led t2 es1 (SetTable.grown es1.size)
    generalize relayAll t2 es1 (SetTable.grown es1.size) = Z at pm hf3 hr3 hl3 ⊢
    obtain ⟨es2, t3, gave⟩ := Z
    dsimp only at pm hf3 hr3 hl3 ⊢
    have hsz : es2.size = es1.size := by rw [← Array.length_toList, pm.length_eq, Array.length_toList]
    have hb2 : es2.size < scanBound := by rw [hsz]; exact hb1
    refine wpAny_bind (hg _ _ _ (wpAny_bind (wpAny_storeSet_of ho1 rfl ?_ (fits_of_scanBound hb2))))
    have ho2 := store_at (es' := es2) (t' := t3) ho1 rfl
    exact wpAny_pure (hR _ (sb1.trans (Heap.SameBut.update _ a _)) ⟨_, es2, _, t3, ho2, hex, rfl, fun e he => g1 e (pm.mem_iff.mp he), (pm.map (kyG knd)).nodup_iff.mpr nd1, fun k => (m1 k).trans (pm.map (kyG knd)).mem_iff.symm, hb2, hf3, hsz, hr3,
      hl.imp id fun z => by rw [hl3]; exact z⟩)
  · exact wpAny_pure (hR _ sb1 ⟨_, es1, _, t2, ho1, hex, rfl, g1, nd1, m1, hb1, hf2, rfl, hr, hl⟩)
theorem addG {k : K} {x : Value} {Q : Bool → Shared → Prop} (R : StG knd s.heap a S n) (hkey : knd.is k x = true) (hsc : x.scannable = true) (room : n + 1 < scanBound)
    (hQ : ∀ h', Heap.SameBut a s.heap h' → StG knd h' a (fun j => S j || decide (j = k)) (if S k = true then n else n + 1) → Q (!S k) { s with heap := h' }) : wpAny (model P w) A (setAddHashed a x (knd.hash k)) Q E s := by
  obtain ⟨o, es, ep, t, ho, hex, hd, g, nd, hm, hb, hf, hn, hr, hl⟩ := R
  have hel : ElemsOf knd es.toList := elems_of g
  unfold setAddHashed setAddHashedIn
  refine wpAny_holding (wpAny_bind (wpAny_setState_of ho hd hf ?_))
  dsimp only
  rw [byScan_of hsc hb hel]
  simp only [↓reduceIte]
  unfold setAddByScan
  refine wpAny_bind (wpAny_bind (wpAny_rule (wpAny_bind (wpAny_setScan_of hkey ho hd hf hel ?_))))
  cases hfi : List.findIdx? (fun e => knd.is k e.2) es.toList with
  | some j =>
    dsimp only
    obtain ⟨hj, pj, _⟩ := List.findIdx?_eq_some_iff_getElem.mp hfi
    have hSk : S k = true := (hm k).2 ((kyG_mem g k).2 ⟨es.toList[j], List.getElem_mem hj, pj⟩)
    refine wpAny_pure (wpAny_pure ?_)
    have q := hQ s.heap (Heap.SameBut.refl a s.heap) ⟨o, es, ep, t, ho, hex, hd, g, nd, fun i => by
      rw [Bool.or_eq_true, decide_eq_true_eq, ← hm i]
      exact ⟨fun z => z.elim id (fun e => e ▸ hSk), .inl⟩, hb, hf, by rw [if_pos hSk]; exact hn, hr, hl⟩
    rw [hSk] at q
    exact q
  | none =>
    dsimp only
    have hnk : k ∉ es.toList.map (kyG knd) := fun z => by
      obtain ⟨e, he, q⟩ := (kyG_mem g k).1 z
      have c := List.findIdx?_eq_none_iff.mp hfi e he
      rw [q] at c
      cases c
    have hSk : S k = false := by
      cases q : S k with
      | false => rfl
      | true => exact absurd ((hm k).1 q) hnk
    have hgw : ∀ (b : Bool) {s₁ : Shared} {Q' : Unit → Shared → Prop}, Q' () s₁ → wpAny (model P w) A (match b with | true => rule "set.scan.the-table-gave-way" | false => pure ()) Q' E s₁ := fun b s₁ Q' q => by
      cases b <;> first | exact wpAny_pure q | exact wpAny_rule q
    have pm := layNew_perm t es (knd.hash k) x
    have hf1 := layNew_fits t es (knd.hash k) x
    have hr1 := layNew_ris t es (knd.hash k) x hr
    have hl1 := layNew_led t es (knd.hash k) x
    generalize layNew t es (knd.hash k) x = Z at pm hf1 hr1 hl1 ⊢
    obtain ⟨es1, t1, wasDummy, gave⟩ := Z
    dsimp only at pm hf1 hr1 hl1 ⊢
    rw [Array.toList_push] at pm
    have pc : es1.toList.Perm ((knd.hash k, x) :: es.toList) := pm.trans (List.perm_append_singleton _ _)
    have gx : Gd knd (knd.hash k, x) := ⟨⟨k, hkey, rfl⟩, hsc⟩
    have pk : (es1.toList.map (kyG knd)).Perm (k :: es.toList.map (kyG knd)) := by
      have q := pc.map (kyG knd)
      rw [List.map_cons, (kyG_is gx k).1 hkey] at q
      exact q
    have g1 : ∀ e ∈ es1.toList, Gd knd e := fun e he => by
      rcases List.mem_cons.mp (pc.mem_iff.mp he) with z | z
      · rw [z]; exact gx
      · exact g e z
    have nd1 : (es1.toList.map (kyG knd)).Nodup := pk.nodup_iff.mpr (List.nodup_cons.mpr ⟨hnk, nd⟩)
    have m1 : ∀ i, (S i || decide (i = k)) = true ↔ i ∈ es1.toList.map (kyG knd) := fun i => by
      rw [Bool.or_eq_true, decide_eq_true_eq, hm i, pk.mem_iff, List.mem_cons]
      exact Or.comm
    have hsz : es1.size = n + 1 := by rw [← Array.length_toList, pc.length_eq, List.length_cons, Array.length_toList, hn]
    have hb1 : es1.size < scanBound := by rw [hsz]; exact room
    have hled : w.params.followText "set-order" = true ∨ t1.led = true := hl.imp id fun z => by rw [hl1]; exact z
    have fin : ∀ h', Heap.SameBut a s.heap h' → StG knd h' a (fun j => S j || decide (j = k)) es1.size → Q true { s with heap := h' } := fun h' sb r => by
      have q := hQ h' sb
      rw [hSk] at q
      rw [hsz] at r
      exact q r
    refine wpAny_bind (hgw _ ?_)
    split
    · refine wpAny_bind ?_
      rw [hashByValue_scannable 8 hsc]
      refine wpAny_pure ?_
      refine tailG ?_ ho hex hd g1 nd1 m1 hb1 ?_ ?_ ?_ ?_
      · intro b s₁ Q' q; cases b <;> first | exact wpAny_pure q | exact wpAny_rule q
      · first | (split <;> first | exact hf1 | exact SetTable.fits_plain_off hf1) | exact hf1
      · first | (split <;> exact hr1) | exact hr1
      · first | (split <;> exact hled) | exact hled
      · intro h' sb r; dsimp only; exact wpAny_pure (fin h' sb r)
    · refine wpAny_bind (wpAny_pure ?_)
      simp only [↓reduceIte]
      refine tailG ?_ ho hex hd g1 nd1 m1 hb1 hf1 hr1 hled ?_
      · intro b s₁ Q' q; cases b <;> first | exact wpAny_pure q | exact wpAny_rule q
      · intro h' sb r; dsimp only; exact wpAny_pure (fin h' sb r)
end
end SG

/-! SG2: set(list). -/
namespace SG
open PySem PySem.Spec PyProof.Rows L2
section
variable {P : Program} {w : World} {K : Type} [DecidableEq K] [Inhabited K] {knd : PySem.KeyKind P w K} {A : Around} {E : Value → Shared → Prop}
def memG (val : Nat → K) (i : Nat) : K → Bool := fun k => decide (k ∈ (List.range i).map val)
theorem memG_succ (val : Nat → K) (i : Nat) (k : K) : memG val (i + 1) k = (memG val i k || decide (k = val i)) := by
  unfold memG
  rw [List.range_succ, List.map_append, ← Bool.decide_or]
  simp [List.mem_append]
theorem loopG {R : Result → Shared → Prop} {I : Addr} {fp wr : List Addr} {G : Array GenState → Array GenState → Prop} {n : Nat} {Pv : Nat → Value → Prop} {St : Nat → Shared → Prop}
    (W : WalksS P w A.in1 I fp wr G n Pv St) (S : Addr) (hSf : S ∉ fp) (val : Nat → K) (hval : ∀ i v, Pv i v → knd.is (val i) v = true ∧ v.scannable = true) (hb : n + 1 < scanBound) :
    ∀ (k i : Nat) (s : Shared), n - i = k → i ≤ n → St i s → (∃ m, m ≤ i ∧ StG knd s.heap S (memG val i) m) →
      (∀ s', Moved (S :: wr) G s s' → (∃ m, m ≤ n ∧ StG knd s'.heap S (memG val n) m) → R (.ok (.ret .none)) s') → codeAny (model P w) A (.builtin "set.update.loop" ⟨[.ref S, .ref I], []⟩) R s := by
  have hSw : S ∉ wr := fun h => hSf (W.sub _ h)
  have hsub : ∀ b ∈ wr, b ∈ S :: wr := fun b hb => List.mem_cons_of_mem _ hb
  intro k
  induction k with
  | zero =>
    intro i s hk hi hst ⟨m, hm0, hS⟩ hR
    have hin : i = n := by omega
    subst hin
    refine codeAny_builtin F.entry_set_update_loop ?_
    rw [Around.under_plainId F.plain_set_update_loop _]
    show wpAny _ A.in1 (pyNext (.ref I) >>= _) _ _ s
    refine wpAny_bind (W.done s _ _ hst fun s' hm => ?_)
    show wpAny _ A.in1 (ret Value.none) _ _ s'
    exact wpAny_pure (hR s' (hm.mono hsub) ⟨m, hm0, hS.at fun o q => hm.heap S o hSw q⟩)
  | succ k ih =>
    intro i s hk hi hst ⟨m, hm0, hS⟩ hR
    have hlt : i < n := by omega
    refine codeAny_builtin F.entry_set_update_loop ?_
    rw [Around.under_plainId F.plain_set_update_loop _]
    show wpAny _ A.in1 (pyNext (.ref I) >>= _) _ _ s
    refine wpAny_bind (W.item i s _ _ hlt hst fun v s' hP hst' hm => ?_)
    obtain ⟨hkey, hsc⟩ := hval i v hP
    have hS' : StG knd s'.heap S (memG val i) m := hS.at fun o q => hm.heap S o hSw q
    show wpAny _ A.in1 (holding [v] (setAdd S v) >>= _) _ _ s'
    refine wpAny_bind (wpAny_holding ?_)
    unfold setAdd
    refine wpAny_holding (wpAny_bind (knd.pyHash hkey ?_))
    refine addG (s := { s' with toks := s'.toks + 1 }) hS' hkey hsc (by omega) fun h' hsb hS2 => ?_
    refine wpAny_pure ⟨plainId_quiet F.plain_set_update_loop _, ih (i + 1) _ (by omega) hlt (W.frame _ s' _ _ hst' (Nat.le_succ _) fun b hb o e => ?_) ⟨_, ?_, hS2.congr (memG_succ val i) rfl⟩ fun s'' hm'' hS'' => ?_⟩
    · rw [hsb.2 b (fun h : b = S => hSf (by rw [← h]; exact hb))]; exact e
    · split <;> omega
    · refine hR s'' (Moved.trans W.gtrans ((hm.mono hsub).then_heap (Nat.le_succ _) fun b o hb e => ?_) hm'') hS''
      rw [hsb.2 b (fun h : b = S => hb (by rw [h]; exact List.mem_cons_self))]; exact e
variable {s : Shared}
def ledOf (w : World) : Bool := !w.params.followText "set-order"
theorem code_new1 (a : Value) {Q₁ : Value → Shared → Prop} (h : Q₁ (.ref s.heap.objs.size) { s with heap := s.heap.push { cls := .type "set", dict := none, data := .set #[] 0 (.fresh 0 0 (ledOf w)) } }) :
    codeAny (model P w) A (.call (.builtin "set.__new__") ⟨[.type "set", a], []⟩) (wants Q₁ E) s := by
  refine codeAny_of_tree ?_
  show wpAny _ A.in1 (do checkBuiltinCall "set.__new__" ⟨[.type "set", a], []⟩; again (.builtin "set.__new__" ⟨[.type "set", a], []⟩)) _ _ s
  refine wpAny_bind (wpAny_of_eq (PySem.F.newCall_set_1 a) (wpAny_pure ⟨plainId_quiet PySem.F.plain_set_new _, codeAny_builtin PySem.F.entry_set_new ?_⟩))
  rw [Around.under_plainId PySem.F.plain_set_new _]
  unfold Builtin.«set.__new__» Builtin.Frozenset.newClass
  have hsub := sub_set_self
  obtain ⟨hp, g, d, tk, os⟩ := s
  dsimp only
  wp_walk
  refine wpAny_askSetting (wpAny_pure ?_)
  dsimp only
  simp only [newObj]
  exact wpAny_bind (wpAny_alloc (wpAny_pure (wpAny_pure h)))
theorem fresh_StG {h : Heap} : StG knd (h.push { cls := .type "set", dict := none, data := .set #[] 0 (.fresh 0 0 (ledOf w)) }) h.objs.size (fun _ => false) 0 :=
  ⟨_, #[], 0, _, Heap.get?_push_size _ rfl, ⟨rfl, rfl, rfl⟩, rfl, (fun e he => by simp at he), (by simp), (fun k => by simp), (by decide), (by rfl), rfl, List.Pairwise.nil, by
    show _ ∨ (!w.params.followText "set-order") = true
    cases w.params.followText "set-order"
    · exact .inr rfl
    · exact .inl rfl⟩
end
end SG

/-! SG3: set(list), called. -/
namespace SG
open PySem PySem.Spec PyProof.Rows L2
section
variable {P : Program} {w : World} {K : Type} [DecidableEq K] [Inhabited K] {knd : PySem.KeyKind P w K} {A : Around} {E : Value → Shared → Prop} {s : Shared}
theorem set_listG {l : Addr} {items : Array Value} {ks : List K} {Q : Value → Shared → Prop} (hh : A.handled = none) (hl : s.heap.IsList l items) (hi : ∀ (i : Nat) (v : Value), items[i]? = some v → knd.is (ks.getD i default) v = true ∧ v.scannable = true) (hb : items.size + 1 < scanBound)
    (h : ∀ (h' : Heap) (tk : Nat), (∃ m, m ≤ items.size ∧ StG knd h' s.heap.objs.size (memG (fun i => ks.getD i default) items.size) m) →
      (∀ b o, b < s.heap.objs.size → s.heap.get? b = some o → h'.get? b = some o) → Q (.ref s.heap.objs.size) { s with heap := h', toks := tk }) :
    wpAny (model P w) A (call (.type "set") [.ref l]) Q E s := by
  obtain ⟨c, tl, hmro⟩ := PySem.F.called_set.mro
  have hmade := PySem.F.called_set.made
  have hsub := PySem.F.called_set.sub
  refine wpAny_call (codeAny_of_tree ?_)
  show wpAny _ _ (callAny (.type "set") _) _ _ _
  refine wpAny_pure ⟨Code.quiet_builtin _ (by decide +kernel), codeAny_builtin PySem.F.entry_type_call ?_⟩
  rw [Around.under_plain (weight_type_call_type "set" [.ref l] []) rfl]
  have h1 := PySem.F.called_set.notType
  have h2 := PySem.F.called_set.canCreate
  have hct := PySem.F.typeCall_set_1 (.ref l)
  repeat (any_goals (first | assumption | wp_step))

  refine codeAny_mono (code_new1 (.ref l) (E := E) (Q₁ := fun obj s₁ => obj = .ref s.heap.objs.size ∧ s₁ = { s with heap := s.heap.push { cls := .type "set", dict := none, data := .set #[] 0 (.fresh 0 0 (ledOf w)) } }) ⟨rfl, rfl⟩) fun r s₁ hr => ?_
  cases r with
  | error e => exact hr
  | ok fl =>
    cases fl with
    | ret obj =>
      obtain ⟨rfl, rfl⟩ := hr
      have hS : (s.heap.push { cls := .type "set", dict := none, data := .set #[] 0 (.fresh 0 0 (ledOf w)) }).get? s.heap.objs.size = some { cls := .type "set", dict := none, data := .set #[] 0 (.fresh 0 0 (ledOf w)) } := Heap.get?_push_size _ rfl
      have hT : Shared.TypeIs { s with heap := s.heap.push { cls := .type "set", dict := none, data := .set #[] 0 (.fresh 0 0 (ledOf w)) } } (.ref s.heap.objs.size) "set" := ⟨_, hS, rfl⟩
      have hli := PySem.F.called_set.init.lookup
      have hbi := PySem.F.called_set.init.bind (.ref s.heap.objs.size)
      repeat (any_goals (first | assumption | wp_step))

      refine codeAny_mono (codeAny_call_builtin (R := wants (fun r s₂ => r = .none ∧ ∃ h' tk, s₂ = { s with heap := h', toks := tk } ∧
          (∃ m, m ≤ items.size ∧ StG knd h' s.heap.objs.size (memG (fun i => ks.getD i default) items.size) m) ∧
          (∀ b o, b < s.heap.objs.size → s.heap.get? b = some o → h'.get? b = some o)) E) PySem.F.called_set.init.plain PySem.F.entry_set_init (check_set_init_1 hT ?_)) fun r₂ s₂ hr₂ => ?_
      · obtain ⟨ol, hol, hcl, nl, hdl⟩ := hl
        obtain ⟨ocls, odict, odata, oslots⟩ := ol
        simp only at hcl hdl
        subst hcl; subst hdl
        have hol' : (s.heap.push { cls := .type "set", dict := none, data := .set #[] 0 (.fresh 0 0 (ledOf w)) }).get? l = some { cls := .type "list", dict := odict, data := .seq items nl, slots := oslots } := Heap.get?_push_of_some _ hol
        have hsls := PySem.F.sub_list_set
        have hslf := PySem.F.sub_list_frozenset
        have hne : (Value.type "list" == Value.type "dict") = false := by decide
        have hl1 : (s.heap.push { cls := .type "set", dict := none, data := .set #[] 0 (.fresh 0 0 (ledOf w)) }).IsList l items := ⟨_, hol', rfl, nl, rfl⟩
        unfold Builtin.«set.__init__» noKeywords Builtin.Frozenset.updateFrom
        generalize hPI : pyIter = PI
        wp_walk
        subst hPI

        refine wpAny_pyIter_list hl1 ?_
        refine wpAny_bind (wpAny_runValue ?_)
        have hlS : l < s.heap.objs.size := Heap.lt_size hol
        have hh3 : A.in1.in1.in1.handled = none := by simp [hh]
        have hneI : l ≠ (s.heap.push { cls := .type "set", dict := none, data := .set #[] 0 (.fresh 0 0 (ledOf w)) }).objs.size := by
          rw [Heap.size_push]; exact Nat.ne_of_lt (Nat.lt_succ_of_lt hlS)
        have hSf : s.heap.objs.size ∉ [(s.heap.push { cls := .type "set", dict := none, data := .set #[] 0 (.fresh 0 0 (ledOf w)) }).objs.size, l] := by
          rw [Heap.size_push]; simp only [List.mem_cons, List.mem_singleton, List.not_mem_nil, or_false, not_or]
          exact ⟨Nat.ne_of_lt (Nat.lt_succ_self _), Nat.ne_of_gt hlS⟩
        refine loopG ((Walks.list hh3 _ l hneI items).toS) s.heap.objs.size
          hSf (fun i => ks.getD i default) hi hb (items.size - 0) 0 _ (by omega) (Nat.zero_le _)
          ⟨⟨_, Heap.get?_push_size _ rfl, rfl, rfl⟩, (hl1.push _)⟩ ?hS0 ?hR
        case hS0 =>
          exact ⟨0, Nat.le_refl _, (fresh_StG (h := s.heap)).at fun o q => Heap.get?_push_of_some _ q⟩
        case hR =>
          intro s' hm hS'
          obtain ⟨h', g', d', tk', os'⟩ := s'
          have eg : g' = s.gens := hm.gens
          have ed : d' = s.drawn := hm.drawn
          have eo : os' = s.os := hm.os
          subst eg; subst ed; subst eo
          show wpAny _ _ _ _ _ _
          refine wpAny_pure ?_
          show wpAny _ _ (ret Value.none) _ _ _
          refine wpAny_pure ⟨rfl, h', tk', rfl, hS', fun b o hb e => ?_⟩
          have hb1 : b ≠ s.heap.objs.size := Nat.ne_of_lt hb
          have hb2 : b ≠ (s.heap.push { cls := .type "set", dict := none, data := .set #[] 0 (.fresh 0 0 (ledOf w)) }).objs.size := by
            rw [Heap.size_push]; exact Nat.ne_of_lt (Nat.lt_succ_of_lt hb)
          exact hm.heap b o (by simp only [List.mem_cons, List.mem_singleton, List.not_mem_nil, or_false, not_or]; exact ⟨hb1, hb2⟩) (Heap.get?_push_of_some _ (Heap.get?_push_of_some _ e))

      · cases r₂ with
        | error e => exact hr₂
        | ok fl₂ =>
          cases fl₂ with
          | ret r =>
            obtain ⟨rfl, h', tk, rfl, hS', hk'⟩ := hr₂
            repeat (any_goals (first | assumption | wp_step))
            exact h _ _ hS' hk'
          | _ => exact hr₂.elim
    | _ => exact hr.elim
end
end SG

/-! SG3T: set(tuple), called. -/
namespace SG
open PySem PySem.Spec PyProof.Rows L2
section
variable {P : Program} {w : World} {K : Type} [DecidableEq K] [Inhabited K] {knd : PySem.KeyKind P w K} {A : Around} {E : Value → Shared → Prop} {s : Shared}
theorem set_tupG {l : Addr} {items : Array Value} {ks : List K} {Q : Value → Shared → Prop} (hh : A.handled = none) (hl : s.heap.IsTuple l items) (hi : ∀ (i : Nat) (v : Value), items[i]? = some v → knd.is (ks.getD i default) v = true ∧ v.scannable = true) (hb : items.size + 1 < scanBound)
    (h : ∀ (h' : Heap) (tk : Nat), (∃ m, m ≤ items.size ∧ StG knd h' s.heap.objs.size (memG (fun i => ks.getD i default) items.size) m) →
      (∀ b o, b < s.heap.objs.size → s.heap.get? b = some o → h'.get? b = some o) → Q (.ref s.heap.objs.size) { s with heap := h', toks := tk }) :
    wpAny (model P w) A (call (.type "set") [.ref l]) Q E s := by
  obtain ⟨c, tl, hmro⟩ := PySem.F.called_set.mro
  have hmade := PySem.F.called_set.made
  have hsub := PySem.F.called_set.sub
  refine wpAny_call (codeAny_of_tree ?_)
  show wpAny _ _ (callAny (.type "set") _) _ _ _
  refine wpAny_pure ⟨Code.quiet_builtin _ (by decide +kernel), codeAny_builtin PySem.F.entry_type_call ?_⟩
  rw [Around.under_plain (weight_type_call_type "set" [.ref l] []) rfl]
  have h1 := PySem.F.called_set.notType
  have h2 := PySem.F.called_set.canCreate
  have hct := PySem.F.typeCall_set_1 (.ref l)
  repeat (any_goals (first | assumption | wp_step))

  refine codeAny_mono (code_new1 (.ref l) (E := E) (Q₁ := fun obj s₁ => obj = .ref s.heap.objs.size ∧ s₁ = { s with heap := s.heap.push { cls := .type "set", dict := none, data := .set #[] 0 (.fresh 0 0 (ledOf w)) } }) ⟨rfl, rfl⟩) fun r s₁ hr => ?_
  cases r with
  | error e => exact hr
  | ok fl =>
    cases fl with
    | ret obj =>
      obtain ⟨rfl, rfl⟩ := hr
      have hS : (s.heap.push { cls := .type "set", dict := none, data := .set #[] 0 (.fresh 0 0 (ledOf w)) }).get? s.heap.objs.size = some { cls := .type "set", dict := none, data := .set #[] 0 (.fresh 0 0 (ledOf w)) } := Heap.get?_push_size _ rfl
      have hT : Shared.TypeIs { s with heap := s.heap.push { cls := .type "set", dict := none, data := .set #[] 0 (.fresh 0 0 (ledOf w)) } } (.ref s.heap.objs.size) "set" := ⟨_, hS, rfl⟩
      have hli := PySem.F.called_set.init.lookup
      have hbi := PySem.F.called_set.init.bind (.ref s.heap.objs.size)
      repeat (any_goals (first | assumption | wp_step))

      refine codeAny_mono (codeAny_call_builtin (R := wants (fun r s₂ => r = .none ∧ ∃ h' tk, s₂ = { s with heap := h', toks := tk } ∧
          (∃ m, m ≤ items.size ∧ StG knd h' s.heap.objs.size (memG (fun i => ks.getD i default) items.size) m) ∧
          (∀ b o, b < s.heap.objs.size → s.heap.get? b = some o → h'.get? b = some o)) E) PySem.F.called_set.init.plain PySem.F.entry_set_init (check_set_init_1 hT ?_)) fun r₂ s₂ hr₂ => ?_
      · obtain ⟨ol, hol, hcl, nl, hdl⟩ := hl
        obtain ⟨ocls, odict, odata, oslots⟩ := ol
        simp only at hcl hdl
        subst hcl; subst hdl
        have hol' : (s.heap.push { cls := .type "set", dict := none, data := .set #[] 0 (.fresh 0 0 (ledOf w)) }).get? l = some { cls := .type "tuple", dict := odict, data := .seq items nl, slots := oslots } := Heap.get?_push_of_some _ hol
        have hsls := PySem.F.sub_tuple_set
        have hslf := PySem.F.sub_tuple_frozenset
        have hne : (Value.type "tuple" == Value.type "dict") = false := by decide
        have hl1 : (s.heap.push { cls := .type "set", dict := none, data := .set #[] 0 (.fresh 0 0 (ledOf w)) }).IsTuple l items := ⟨_, hol', rfl, nl, rfl⟩
        unfold Builtin.«set.__init__» noKeywords Builtin.Frozenset.updateFrom
        generalize hPI : pyIter = PI
        wp_walk
        subst hPI

        refine wpAny_pyIter_tuple hl1 ?_
        refine wpAny_bind (wpAny_runValue ?_)
        have hlS : l < s.heap.objs.size := Heap.lt_size hol
        have hh3 : A.in1.in1.in1.handled = none := by simp [hh]
        have hneI : l ≠ (s.heap.push { cls := .type "set", dict := none, data := .set #[] 0 (.fresh 0 0 (ledOf w)) }).objs.size := by
          rw [Heap.size_push]; exact Nat.ne_of_lt (Nat.lt_succ_of_lt hlS)
        have hSf : s.heap.objs.size ∉ [(s.heap.push { cls := .type "set", dict := none, data := .set #[] 0 (.fresh 0 0 (ledOf w)) }).objs.size, l] := by
          rw [Heap.size_push]; simp only [List.mem_cons, List.mem_singleton, List.not_mem_nil, or_false, not_or]
          exact ⟨Nat.ne_of_lt (Nat.lt_succ_self _), Nat.ne_of_gt hlS⟩
        refine loopG ((Walks.tuple hh3 _ l hneI items).toS) s.heap.objs.size
          hSf (fun i => ks.getD i default) hi hb (items.size - 0) 0 _ (by omega) (Nat.zero_le _)
          ⟨⟨_, Heap.get?_push_size _ rfl, rfl, rfl⟩, (hl1.push _)⟩ ?hS0 ?hR
        case hS0 =>
          exact ⟨0, Nat.le_refl _, (fresh_StG (h := s.heap)).at fun o q => Heap.get?_push_of_some _ q⟩
        case hR =>
          intro s' hm hS'
          obtain ⟨h', g', d', tk', os'⟩ := s'
          have eg : g' = s.gens := hm.gens
          have ed : d' = s.drawn := hm.drawn
          have eo : os' = s.os := hm.os
          subst eg; subst ed; subst eo
          show wpAny _ _ _ _ _ _
          refine wpAny_pure ?_
          show wpAny _ _ (ret Value.none) _ _ _
          refine wpAny_pure ⟨rfl, h', tk', rfl, hS', fun b o hb e => ?_⟩
          have hb1 : b ≠ s.heap.objs.size := Nat.ne_of_lt hb
          have hb2 : b ≠ (s.heap.push { cls := .type "set", dict := none, data := .set #[] 0 (.fresh 0 0 (ledOf w)) }).objs.size := by
            rw [Heap.size_push]; exact Nat.ne_of_lt (Nat.lt_succ_of_lt hb)
          exact hm.heap b o (by simp only [List.mem_cons, List.mem_singleton, List.not_mem_nil, or_false, not_or]; exact ⟨hb1, hb2⟩) (Heap.get?_push_of_some _ (Heap.get?_push_of_some _ e))

      · cases r₂ with
        | error e => exact hr₂
        | ok fl₂ =>
          cases fl₂ with
          | ret r =>
            obtain ⟨rfl, h', tk, rfl, hS', hk'⟩ := hr₂
            repeat (any_goals (first | assumption | wp_step))
            exact h _ _ hS' hk'
          | _ => exact hr₂.elim
    | _ => exact hr.elim
end
end SG

/-! SG4: the sorted list of a set of scalars. -/
namespace SG
open PySem PySem.Spec PyProof.Rows L2
theorem each_f {α β : Type} {R : α → β → Prop} {f : α → β} : ∀ {vs : List α}, (∀ v ∈ vs, R v (f v)) → PySem.W.EachIs R vs (vs.map f)
  | [], _ => .nil
  | v :: vs, h => .cons (h v List.mem_cons_self) (each_f fun u hu => h u (List.mem_cons_of_mem _ hu))
section
variable {P : Program} {w : World} {K : Type} [DecidableEq K] [Inhabited K] {knd : PySem.KeyKind P w K} {A : Around} {E : Value → Shared → Prop} {s : Shared} {a : Addr} {S : K → Bool} {n : Nat}
theorem sortedG {toD : K → PyData} {Q : Value → Shared → Prop} (R : StG knd s.heap a S n) (hh : A.handled = none) (hread : ∀ (h : Heap) (k : K) (v : Value), knd.is k v = true → Reads h v (toD k) []) (hal : ∀ k k', PySem.W.alike (toD k) (toD k') = true)
    (hne : ∀ k, toD k ≠ .none ∧ ∀ xs, toD k ≠ .tuple xs) (hu : ∀ k, A.units + 2 + (toD k).depth < cLine)
    (hQ : ∀ (s' : Shared) (p : Addr) (out : Array Value) (c : Nat) (ks bs : List K), (∀ b o, s.heap.get? b = some o → s'.heap.get? b = some o) → s'.gens = s.gens → s'.os = s.os → s.heap.objs.size ≤ p → s'.heap.get? p = some (seqObj "list" out c) →
      PySem.W.EachIs (fun u k => knd.is k u = true) out.toList bs → bs = ks.mergeSort (PySem.W.dataLe false toD) → ks.Nodup → (∀ k, k ∈ ks ↔ S k = true) → ks.length = n → Q (.ref p) s') :
    wpAny (model P w) A (call (.builtin "sorted") [.ref a]) Q E s := by
  obtain ⟨o, es, ep, t, ho, hex, hd, g, nd, hm, hb, hf, hn, hr, hl⟩ := R
  refine Calls.call_function_entry kind_sorted plain_sorted entry_sorted (args_sorted1 _) ?_
  unfold Builtin.«sorted»
  refine wpAny_bind (m := checkCount "sorted" 1 1 _) (wpAny_pure ?_)
  refine wpAny_bind (collect_set (A := A.in1) hh ⟨o, ho, hex.1, hd⟩ hf hb hr hl fun s1 vs k1 hz g1 o1 pm => ?_)
  have hvl : vs.length = n := by rw [pm.length_eq, List.length_map, Array.length_toList]; exact hn
  have each : PySem.W.EachIs (fun u k => knd.is k u = true) vs (vs.map fun v => kyG knd (0, v)) := each_f fun v hv => by
    obtain ⟨e, he, q⟩ := List.mem_map.mp (pm.mem_iff.mp hv)
    rw [← q]
    exact (kyG_is (g e he) _).2 rfl
  have pk : (vs.map fun v => kyG knd (0, v)).Perm (es.toList.map (kyG knd)) := by
    have q := pm.map fun v => kyG knd (0, v)
    rw [List.map_map] at q
    exact q
  generalize hks : (vs.map fun v => kyG knd (0, v)) = ks at each pk
  have hkl : ks.length = vs.length := by rw [← hks, List.length_map]
  have hns : vs.length ≤ sizeLine := by
    rw [hvl, ← hn]
    exact Nat.le_trans (Nat.le_of_lt hb) (by decide)
  refine wpAny_bind (wpAny_newList ?_ hns)
  have hoL : (s1.heap.push (seqObj "list" vs.toArray 0)).get? s1.heap.objs.size = some (seqObj "list" vs.toArray 0) := Heap.get?_push_size _ rfl
  refine wpAny_bind (wpAny_holding ?_)
  refine PySem.W.list_sort_data (enc := toD) (R := fun u k => knd.is k u = true) hoL each (each.mono fun v k q => ⟨[], hread _ _ _ q, by simp⟩) (fun d h1 d' h2 => ?_) (.inr fun d h1 => ?_) (by rw [hkl]; exact hns) (fun k _ => ?_) fun out hlen hout => ?_
  · obtain ⟨k, _, rfl⟩ := List.mem_map.mp h1
    obtain ⟨k', _, rfl⟩ := List.mem_map.mp h2
    exact hal k k'
  · obtain ⟨k, _, rfl⟩ := List.mem_map.mp h1
    exact hne k
  · have := hu k
    show A.units + 1 + 1 + (toD k).depth < cLine
    omega
  · obtain ⟨c, hc⟩ := sortedHeap_at (vs := vs) (out := out.toArray) hoL
    refine wpAny_pure ⟨_, rfl, hQ _ s1.heap.objs.size out.toArray c ks _ (fun b u e => ?_) g1 o1 hz hc (by simpa using hout) rfl (pk.nodup_iff.mpr nd) (fun k => by rw [pk.mem_iff, ← hm k]) (by rw [hkl, hvl])⟩
    have q := k1 b u e
    have hlt := Heap.lt_size q
    show (sortedHeap (s1.heap.push (seqObj "list" vs.toArray 0)) s1.heap.objs.size vs out.toArray).get? b = some u
    rw [sortedHeap_old (Nat.ne_of_lt hlt) (by rw [size_push']; exact Nat.lt_succ_of_lt hlt)]
    exact Heap.get?_push_of_some _ q
end
end SG

/-! SG5: sorted(set(e)) of a list of texts or of ints. -/
namespace SG
open PySem PySem.Spec PyProof.Rows L2
theorem vals_get {f : α → V} {default : α} : ∀ {ks : List α} {us : List Value}, Vals (ks.map f) us → ∀ (i : Nat) (v : Value), us[i]? = some v → RelV (f (ks.getD i default)) v
  | [], _, .nil, i, v, q => by cases q
  | k :: ks, _, .cons r t, 0, v, q => by cases q; exact r
  | k :: ks, _, .cons r t, i + 1, v, q => vals_get (default := default) t i v q
theorem each_vals {κ : Type} {f : κ → V} {R : Value → κ → Prop} (h : ∀ u k, R u k → RelV (f k) u) : ∀ {us : List Value} {ks : List κ}, PySem.W.EachIs R us ks → Vals (ks.map f) us
  | _, _, .nil => .nil
  | _, _, .cons a t => .cons (h _ _ a) (each_vals h t)
/-- the outcome: without doubles, the same members, in order -/
def Outc {κ : Type} (le : κ → κ → Prop) (ks bs : List κ) : Prop := bs.Nodup ∧ (∀ z, z ∈ bs ↔ z ∈ ks) ∧ bs.Pairwise le
def leS (a b : Str) : Prop := ¬ b.cps.toList < a.cps.toList
def kSS (xs : List V) (H : Hp) (Q : VK) : Prop :=
  (∃ ks : List Str, xs = ks.map V.str ∧ ∀ bs p, Outc leS ks bs → H p = none → Q (.ref p) (upd H p (.lst (bs.map V.str)))) ∨
  (∃ ks : List Int, xs = ks.map V.int ∧ ∀ bs p, Outc (· ≤ ·) ks bs → H p = none → Q (.ref p) (upd H p (.lst (bs.map V.int))))
def tSS (K : PySem.W.Frag) (ta : TE) : TE := fun σ H Q => ta σ H fun x H1 => ∃ l xs, x = .ref l ∧ (SqL K H1 l xs ∨ SqT K H1 l xs) ∧ xs.length + 1 < scanBound ∧ kSS xs H1 Q
theorem leS_total (a b : Str) : leS a b ∨ leS b a := by
  unfold leS
  by_cases h : b.cps.toList < a.cps.toList
  · exact .inr fun z => List.lt_asymm h z
  · exact .inl h
section
variable {X : Cx}
theorem memG_iff {κ : Type} [DecidableEq κ] [Inhabited κ] {ks : List κ} {k : κ} {n : Nat} (hn : n = ks.length) : memG (fun i => ks.getD i default) n k = true ↔ k ∈ ks := by
  subst hn
  unfold memG
  rw [decide_eq_true_eq, List.mem_map]
  constructor
  · rintro ⟨i, hi, rfl⟩
    have := List.mem_range.mp hi
    rw [List.getD_eq_getElem?_getD, List.getElem?_eq_getElem this]
    exact List.getElem_mem this
  · intro h
    obtain ⟨i, hi, rfl⟩ := List.mem_iff_getElem.mp h
    exact ⟨i, List.mem_range.mpr hi, by rw [List.getD_eq_getElem?_getD, List.getElem?_eq_getElem hi]; rfl⟩
theorem fin_set {κ : Type} [DecidableEq κ] [Inhabited κ] {knd : PySem.KeyKind X.prog X.w κ} {f : κ → V} {toD : κ → PyData} {le : κ → κ → Prop} (hle : ∀ a b, PySem.W.dataLe false toD a b = true → le a b) (htot : ∀ a b, (PySem.W.dataLe false toD a b || PySem.W.dataLe false toD b a) = true) (htr : ∀ a b c, PySem.W.dataLe false toD a b = true → PySem.W.dataLe false toD b c = true → PySem.W.dataLe false toD a c = true)
    (hf : ∀ u k, knd.is k u = true → RelV (f k) u) (hr : ∀ u k, RelV (f k) u → knd.is k u = true ∧ u.scannable = true) (hread : ∀ (h : Heap) (k : κ) (v : Value), knd.is k v = true → Reads h v (toD k) []) (hal : ∀ k k', PySem.W.alike (toD k) (toD k') = true)
    (hne : ∀ k, toD k ≠ .none ∧ ∀ xs, toD k ≠ .tuple xs) (hu : ∀ k, X.A.units + 2 + (toD k).depth < cLine) (hc : X.calm = true) {pins : List (Addr × Obj)} {σ : L2.St} {H : Hp} {s : Shared} {l : Addr} {ks : List κ} {Q : VK} (I : Inv X pins σ H s) (hS : SqL X.K H l (ks.map f) ∨ SqT X.K H l (ks.map f)) (hlen : (ks.map f).length + 1 < scanBound)
    (q : ∀ bs p, Outc le ks bs → H p = none → Q (.ref p) (upd H p (.lst (bs.map f)))) :
    wpAny (model X.prog X.w) X.A (call (.type "set") [.ref l]) (fun v s1 => wpAny (model X.prog X.w) X.A (call (.builtin "sorted") [v]) (EP X pins σ Q) X.xe s1) X.xe s := by
  have go : ∃ its : List Value, Vals (ks.map f) its ∧ ∀ {Q : Value → Shared → Prop}, (∀ (h' : Heap) (tk : Nat), (∃ m, m ≤ its.toArray.size ∧ StG knd h' s.heap.objs.size (memG (fun i => ks.getD i default) its.toArray.size) m) → (∀ b o, b < s.heap.objs.size → s.heap.get? b = some o → h'.get? b = some o) → Q (.ref s.heap.objs.size) { s with heap := h', toks := tk }) → wpAny (model X.prog X.w) X.A (call (.type "set") [.ref l]) Q X.xe s := by
    rcases hS with hS | hS
    · obtain ⟨its, r, pl, hz⟩ := I.list hS
      have hl : its.length = ks.length := by rw [← r.length, List.length_map]
      exact ⟨its, r, fun h => set_listG (knd := knd) (ks := ks) (I.ok.hd hc) pl.isList (fun i v e => hr v _ (vals_get r i v (by simpa using e))) (by rw [List.size_toArray, hl]; simpa using hlen) h⟩
    · obtain ⟨its, r, pl, hz⟩ := I.tuple hS
      have hl : its.length = ks.length := by rw [← r.length, List.length_map]
      exact ⟨its, r, fun h => set_tupG (knd := knd) (ks := ks) (I.ok.hd hc) pl (fun i v e => hr v _ (vals_get r i v (by simpa using e))) (by rw [List.size_toArray, hl]; simpa using hlen) h⟩
  obtain ⟨its, r, go⟩ := go
  have hl : its.length = ks.length := by rw [← r.length, List.length_map]
  refine go fun h' tk ⟨m, hm, R⟩ keep => ?_
  have I2 : Inv X pins σ H { s with heap := h', toks := tk } := I.kept fun b o e => keep b o (Heap.lt_size e) e
  refine sortedG R (I.ok.hd hc) hread hal hne hu fun s' p out c us bs k1 g1 o1 hp hg he hb nd hmem hul => ?_
  have hlen2 : (bs.map f).length ≤ sizeLine := by
    rw [List.length_map, hb, List.length_mergeSort, hul]
    rw [List.size_toArray, hl] at hm
    rw [List.length_map] at hlen
    have : scanBound ≤ sizeLine := by decide
    omega
  have hn : H p = none := I2.hok.fresh hp
  have k2 : ∀ b u, s.heap.get? b = some u → s'.heap.get? b = some u := fun b u e => k1 b u (keep b u (Heap.lt_size e) e)
  have hp2 : s.heap.objs.size ≤ p := by
    obtain ⟨_, _, _, _, ho, _⟩ := R
    have := Heap.lt_size ho
    exact Nat.le_trans (Nat.le_of_lt this) hp
  have J : Inv X pins σ (upd H p (.lst (bs.map f))) { s with heap := s'.heap, gens := s'.gens, drawn := s'.drawn, toks := s'.toks } :=
    I.call (ch := []) (Un.laid k2 hp2 hn) (I.hok.laid k2 hp2 ⟨hlen2, out.toList, c, each_vals hf he, hg⟩) (by rw [g1]; exact I.bare) (fun _ z => nomatch z)
  have e : s' = { s with heap := s'.heap, gens := s'.gens, drawn := s'.drawn, toks := s'.toks } := by
    cases s'
    cases s
    cases o1
    rfl
  rw [e]
  have pm : bs.Perm us := by rw [hb]; exact List.mergeSort_perm _ _
  refine ⟨.ref p, _, J, rfl, q bs p ⟨pm.nodup_iff.mpr nd, fun z => by rw [pm.mem_iff, hmem z]; exact memG_iff (by rw [List.size_toArray, hl]), ?_⟩ hn⟩
  rw [hb]
  exact (List.pairwise_mergeSort htr htot us).imp fun h => hle _ _ h
end
end SG

/-! SG6: sorted(set(e)) as an expression. -/
namespace SG
open PySem PySem.Spec PyProof.Rows L2
instance : Inhabited Str := ⟨Str.empty⟩
theorem dle_str (a b : Str) : PySem.W.dataLe false PyData.str a b = !decide (b.cps.toList < a.cps.toList) := by
  rw [PySem.W.dataLe_eq]
  show (!PySem.W.dataLt (.str b) (.str a)) = _
  rw [PySem.W.dataLt_str]
theorem dle_int (a b : Int) : PySem.W.dataLe false PyData.int a b = !decide (b < a) := by
  rw [PySem.W.dataLe_eq]
  show (!PySem.W.dataLt (.int b) (.int a)) = _
  rw [PySem.W.dataLt_int]
theorem lt_of_not {a b c : List Nat} (h : c < a) (h2 : ¬ c < b) : b < a := List.lt_of_le_of_lt (List.not_lt.mp h2) h
theorem pe_sset {X : Cx} {a : Expr} {ta : TE} {p p2 q pos : Pos} (hc : X.calm = true) (hu : X.A.units + 128 < cLine) (hg : Gl X "sorted") (hm : X.mg "sorted" = none) (hg2 : Gl X "set") (hm2 : X.mg "set" = none) (ha : PE X a ta)
    (na : starEach [a] X.env = (false, eval a X.env) :: starEach [] X.env) : PE X (.Call (.Name "sorted" p) [.Call (.Name "set" p2) [a] [] q] [] pos) (tSS X.K ta) := by
  refine ⟨fun pins s σ H Q I h => ?_⟩
  refine Call_ (ld_blt I hg hm (show bootBuiltins "sorted" = some (.builtin "sorted") by decide +kernel) ?_)
  refine PyProof.Rows.callWith_builtin1 (PyProof.Rows.args_cons ?_ rfl) rfl rfl
  refine Call_ (ld_blt I hg2 hm2 (show bootBuiltins "set" = some (.type "set") by decide +kernel) ?_)
  refine PyProof.Rows.callWith_type1 (PyProof.Rows.args_cons (thn (ha.run pins s σ H _ I h) fun v s1 ⟨x, H1, I1, r1, q1⟩ => PyProof.Rows.args_nil ?_) na) na rfl
  obtain ⟨l, xs, rfl, hq, h1, q1⟩ := q1
  cases r1
  suffices key : wpAny (model X.prog X.w) X.A (call (.type "set") [.ref l]) (fun v s2 => wpAny (model X.prog X.w) X.A (call (.builtin "sorted") [v]) (EP X pins σ Q) X.xe s2) X.xe s1 from thn key fun v s2 k => PyProof.Rows.args_nil k
  rcases q1 with ⟨ks, rfl, k⟩ | ⟨ks, rfl, k⟩
  · refine fin_set (knd := PySem.strKind X.prog X.w) (f := V.str) (toD := PyData.str) (le := leS) (fun a b e => ?_) (fun a b => ?_) (fun a b c e1 e2 => ?_) (fun u k e => ?_) (fun u k e => ?_) (fun h k v e => ?_) (fun _ _ => rfl) (fun k => ⟨fun z => (by cases z), fun _ z => (by cases z)⟩) (fun k => ?_) hc I1 hq h1 k
    · rw [dle_str] at e; unfold leS; simpa using e
    · rw [dle_str, dle_str]
      rcases leS_total a b with z | z <;> unfold leS at z <;> simp [z]
    · rw [dle_str] at e1 e2 ⊢
      simp only [Bool.not_eq_true', decide_eq_false_iff_not] at e1 e2 ⊢
      exact fun z => e1 (lt_of_not z e2)
    · obtain ⟨t, rfl⟩ := Value.isStrOf_shape e; exact ⟨t, rfl⟩
    · obtain ⟨t, rfl⟩ := e
      exact ⟨by simp [PySem.strKind, Value.isStrOf], rfl⟩
    · obtain ⟨t, rfl⟩ := Value.isStrOf_shape e; exact .str _ _
    · have : (PyData.str k).depth = 0 := by simp [PyData.depth]
      omega
  · have dpt : ∀ k : Int, (PyData.int k).depth = 0 := fun k => by simp [PyData.depth]
    refine fin_set (knd := PySem.intKind X.prog X.w) (f := V.int) (toD := PyData.int) (le := (· ≤ ·)) (fun a b e => ?_) (fun a b => ?_) (fun a b c e1 e2 => ?_) (fun u k e => ?_) (fun u k e => ?_) (fun h k v e => ?_) (fun _ _ => rfl) (fun k => ⟨fun z => (by cases z), fun _ z => (by cases z)⟩) (fun k => ?_) hc I1 hq h1 k
    · rw [dle_int] at e; simp at e; exact e
    · rw [dle_int, dle_int]; simp; omega
    · rw [dle_int] at e1 e2 ⊢; simp at e1 e2 ⊢; omega
    · cases u <;> first | (have e2 := eq_of_beq (show (_ == k) = true from e); subst e2; exact ⟨_, rfl⟩) | exact Bool.noConfusion (show false = true from e)
    · obtain ⟨t, rfl⟩ := e
      exact ⟨intKind_is _ _ _ _, rfl⟩
    · cases v <;> first | (have e2 := eq_of_beq (show (_ == k) = true from e); subst e2; exact .int _ _) | exact Bool.noConfusion (show false = true from e)
    · have := dpt k
      omega
end SG

/-! DD2: the small language and its meaning (weakest preconditions over pure data). -/
namespace DD
open PySem PySem.Spec PyProof.Rows L2 PySem.W

/-! ### data operations -/
def CmpOk (a b : D) : Prop := min a.depth b.depth ≤ 60
def LtOk (a b : D) : Prop := alike a b = true ∧ a ≠ .none ∧ min a.depth b.depth ≤ 60
def MulOk (i j : Int) : Prop := CMul i j ∨ CMulW i j
def binD (op : Operator) (a b : D) (k : D → Prop) : Prop :=
  match op, a, b with
  | .Add, .int x, .int y => k (.int (x + y))
  | .Add, .str x, .str y => x.length + y.length ≤ sizeLine ∧ k (.str (x ++ y))
  | .Add, .list x, .list y => x.length + y.length ≤ sizeLine ∧ k (.list (x ++ y))
  | .Add, .tuple x, .tuple y => x.length + y.length ≤ sizeLine ∧ k (.tuple (x ++ y))
  | .Sub, .int x, .int y => k (.int (x - y))
  | .Mult, .int x, .int y => MulOk x y ∧ k (.int (x * y))
  | .Mult, .list x, .int n => (-(2 ^ 63) ≤ n ∧ n < 2 ^ 63 ∧ x.length * n.toNat ≤ sizeLine) ∧ k (.list (List.replicate n.toNat x).flatten)
  | .Mult, .tuple x, .int n => (x ≠ [] ∧ 2 ≤ n ∧ n ≤ 1000 ∧ x.length ≤ 1000) ∧ k (.tuple (List.replicate n.toNat x).flatten)
  | .FloorDiv, .int x, .int y => CDivW x y ∧ k (.int (x / y))
  | .Mod, .int x, .int y => 0 < y ∧ k (.int (x % y))
  | .Pow, .int x, .int y => CPow x y ∧ k (.int (x ^ y.toNat))
  | .LShift, .int x, .int y => CPow x y ∧ k (.int (x * 2 ^ y.toNat))
  | _, _, _ => False
def inD (x s : D) (k : Bool → Prop) : Prop :=
  match s with
  | .list ys => min (PyData.depthAll ys) x.depth ≤ 60 ∧ k (ys.any fun z => PyData.eqv z x)
  | .tuple ys => min (PyData.depthAll ys) x.depth ≤ 60 ∧ k (ys.any fun z => PyData.eqv z x)
  | .str z => ∃ c, x = .str ⟨#[c]⟩ ∧ k (decide (c ∈ z.cps.toList))
  | _ => False
def isD (x y : D) (k : Bool → Prop) : Prop :=
  match x, y with
  | .none, .none => k true
  | .bool a, .bool b => k (decide (a = b))
  | .bool _, .none => k false
  | .int _, .none => k false
  | .str _, .none => k false
  | .list _, .none => k false
  | .tuple _, .none => k false
  | _, _ => False
def cmpD (op : CmpOp) (a b : D) (k : Bool → Prop) : Prop :=
  match op with
  | .Eq => CmpOk a b ∧ k (PyData.eqv a b)
  | .NotEq => CmpOk a b ∧ k (!PyData.eqv a b)
  | .Lt => LtOk a b ∧ k (dataLt a b)
  | .Gt => LtOk a b ∧ k (dataLt b a)
  | .LtE => LtOk a b ∧ k (!dataLt b a)
  | .GtE => LtOk a b ∧ k (!dataLt a b)
  | .In => inD a b k
  | .NotIn => inD a b fun c => k (!c)
  | .Is => isD a b k
  | .IsNot => isD a b fun c => k (!c)
def truthD (d : D) (k : Bool → Prop) : Prop :=
  match d with
  | .none => k false
  | .bool b => k b
  | .int n => k (n != 0)
  | .str s => s.length ≤ sizeLine ∧ k ((s.length : Int) != 0)
  | .list xs => k (!xs.isEmpty)
  | .tuple xs => k (!xs.isEmpty)
  | .dict _ => False
def ixD (a i : D) (k : D → Prop) : Prop :=
  match a, i with
  | .list xs, .int i => ∃ d, atI xs i = some d ∧ k d
  | .tuple xs, .int i => ∃ d, atI xs i = some d ∧ k d
  | .str s, .int i => s.length ≤ sizeLine ∧ ∃ c, atI s.cps.toList i = some c ∧ k (.str ⟨#[c]⟩)
  | _, _ => False
def cutL {α : Type} (xs : List α) (lo hi : Option Int) : List α := (xs.drop (HT.sIx xs.length 0 lo)).take (HT.sIx xs.length xs.length hi - HT.sIx xs.length 0 lo)
def slD (a : D) (lo hi : Option Int) (k : D → Prop) : Prop :=
  match a with
  | .list xs => k (.list (cutL xs lo hi))
  | .tuple xs => k (.tuple (cutL xs lo hi))
  | .str s => s.length ≤ sizeLine ∧ k (.str (cutS s lo hi))
  | _ => False
def revD (a : D) (k : D → Prop) : Prop :=
  match a with
  | .list xs => k (.list xs.reverse)
  | .tuple xs => k (.tuple xs.reverse)
  | _ => False
inductive Bi where
  | len | abs | int | str | sum | all | any | min | max | min2 | max2 | sorted | list | tuple | sortSet | lenSet | listRange
inductive Ty where
  | int | bool | str | tuple | list
  deriving DecidableEq
def isiD (d : D) : Ty → Bool
  | .int => match d with | .int _ => true | .bool _ => true | _ => false
  | .bool => match d with | .bool _ => true | _ => false
  | .str => match d with | .str _ => true | _ => false
  | .tuple => match d with | .tuple _ => true | _ => false
  | .list => match d with | .list _ => true | _ => false
def sumI : List D → Option Int
  | [] => some 0
  | .int x :: r => (sumI r).map (x + ·)
  | _ :: _ => none
def seqOf : D → Option (List D)
  | .list xs => some xs
  | .tuple xs => some xs
  | _ => none
def AllLt (xs : List D) : Prop := AlikeAll xs ∧ PyData.depthAll xs ≤ 60
/-- the order of data, as sorted has it -/
def sortD (xs : List D) : List D := xs.mergeSort fun a b => !dataLt b a
def biD (b : Bi) (xs : List D) (k : D → Prop) : Prop :=
  match b, xs with
  | .len, [.list ys] => k (.int ys.length)
  | .len, [.tuple ys] => k (.int ys.length)
  | .len, [.str s] => s.length ≤ sizeLine ∧ k (.int s.length)
  | .abs, [.int i] => k (.int (if i < 0 then -i else i))
  | .int, [.int i] => k (.int i)
  | .int, [.bool b] => k (.int (if b then 1 else 0))
  | .str, [.int i] => i.natAbs.log2 < 1920 ∧ k (.str (toString i))
  | .sum, [.list ys] => ∃ n, sumI ys = some n ∧ k (.int n)
  | .all, [a] => ∃ ys, seqOf a = some ys ∧ (∀ y ∈ ys, PyData.fits63 y) ∧ k (.bool (ys.all PyData.truthy))
  | .any, [a] => ∃ ys, seqOf a = some ys ∧ (∀ y ∈ ys, PyData.fits63 y) ∧ k (.bool (ys.any PyData.truthy))
  | .min, [a] => ∃ y ys, seqOf a = some (y :: ys) ∧ AllLt (y :: ys) ∧ k (minD y ys)
  | .max, [a] => ∃ y ys, seqOf a = some (y :: ys) ∧ AllLt (y :: ys) ∧ k (maxD y ys)
  | .min2, [.int a, .int b] => k (.int (if b < a then b else a))
  | .max2, [.int a, .int b] => k (.int (if b > a then b else a))
  | .sorted, [a] => ∃ ys, seqOf a = some ys ∧ (∀ t, a ≠ .tuple t) ∧ AllLt ys ∧ Sortable ys ∧ k (.list (sortD ys))
  | .list, [.list ys] => k (.list ys)
  | .list, [.tuple ys] => k (.list ys)
  | .tuple, [.list ys] => k (.tuple ys)
  | .tuple, [.tuple ys] => k (.tuple ys)
  | _, _ => False
inductive Mt where
  | index | count | upper
/-! ### the language -/
inductive Tg where
  | nm (i : Nat) | tp (is : List Nat)
mutual
inductive Ex where
  | var (i : Nat) | gl (c : Nat)
  | int (n : Int) | str (s : Str) | bl (b : Bool) | non
  | tup (es : Es) | lst (es : Es)
  | bin (op : Operator) (a b : Ex)
  | neg (a : Ex) | not (a : Ex)
  | and (es : Es) | or (es : Es)
  | cmp (op : CmpOp) (a b : Ex)
  | chn (op op' : CmpOp) (a b c : Ex)
  | ite (c a b : Ex)
  | idx (a i : Ex)
  | slc (a : Ex) (lo hi : Eo)
  | rev (a : Ex)
  | call (f : Nat) (es : Es)
  | bi (b : Bi) (es : Es)
  | isi (a : Ex) (t : Ty)
  | pop0 (i : Nat) | popA (i : Nat) (e : Ex)
  | lc (elt : Ex) (vs : List Nat) (tg : Tg) (it : It) (cs : Es)
  | lc2 (elt : Ex) (vs : List Nat) (tg : Tg) (it : It) (cs : Es) (vs2 : List Nat) (tg2 : Tg) (it2 : It) (cs2 : Es)
  | listI (it : It) | tupI (it : It) | sset (e : Ex)
  | ixof (i : Nat) (e : Ex)
  | bad
inductive Es where
  | nil | cons (e : Ex) (es : Es)
inductive Eo where
  | none | some (e : Ex)
inductive It where
  | seq (e : Ex) | rng1 (a : Ex) | rng2 (a b : Ex) | rng3 (a b c : Ex) | enum (e : Ex) | zip (a b : Ex)
end
/-- a value: data, the slot of an own list, the box -/
inductive RV where
  | d (x : D) | o (i : Nat) | box
inductive Arg where
  | d (x : D) | box
/-- what stands around: calls of defs, the module's constants -/
structure Ctx where
  call : Nat → List Arg → (D → Prop) → Prop
  cst : Nat → Option D

/-- a value as it is read -/
def bor (ρ : En) (v : RV) (k : D → Prop) : Prop :=
  match v with
  | .d x => k x
  | .o i => match ρ[i]? with | some (some (.own x)) => k x | _ => False
  | .box => False
/-- .. as it is kept -/
def cap (v : RV) (k : D → Prop) : Prop :=
  match v with
  | .d x => k x
  | _ => False
def borAll (ρ : En) : List RV → (List D → Prop) → Prop
  | [], k => k []
  | v :: vs, k => bor ρ v fun d => borAll ρ vs fun ds => k (d :: ds)
def capAll : List RV → (List D → Prop) → Prop
  | [], k => k []
  | v :: vs, k => cap v fun d => capAll vs fun ds => k (d :: ds)
def isO : RV → Bool
  | .o _ => true
  | _ => false
def flat : D → Bool
  | .none => true | .bool _ => true | .int _ => true | .str _ => true | _ => false
def argAll (ρ : En) : List RV → (List Arg → Prop) → Prop
  | [], k => k []
  | .box :: vs, k => argAll ρ vs fun as => k (.box :: as)
  | v :: vs, k => bor ρ v fun d => argAll ρ vs fun as => k (.d d :: as)
def wipeR (ρ : En) : List Nat → En
  | [] => ρ
  | v :: vs => (wipeR ρ vs).set v none
/-- the slots vs as they were, where they held data -/
def keepD : Option Vl → Option Vl
  | some (.d x) => some (.d x)
  | _ => none
def back (ρ ρ' : En) : List Nat → En
  | [] => ρ'
  | v :: vs => (back ρ ρ' vs).set v (keepD ((ρ[v]?).getD none))
def setAll : List Nat → List D → En → Option En
  | [], [], ρ => some ρ
  | i :: is, x :: xs, ρ => setAll is xs (ρ.set i (some (.d x)))
  | _, _, _ => none
def tgt (tg : Tg) (x : D) (ρ : En) (k : En → Prop) : Prop :=
  match tg with
  | .nm i => k (ρ.set i (some (.d x)))
  | .tp is => match x with
    | .tuple xs => ∃ ρ', setAll is xs ρ = some ρ' ∧ k ρ'
    | _ => False
def isOwn (ρ : En) (i : Nat) : Prop := match ρ[i]? with
  | some (some (.own (.list _))) => True
  | _ => False
/-- a comprehension's turns -/
def lcl (f : D → En → (Option D → En → Prop) → Prop) : List D → En → List D → (List D → En → Prop) → Prop
  | [], ρ, acc, k => k acc ρ
  | x :: xs, ρ, acc, k => f x ρ fun o ρ' => match o with
    | some d => acc.length < sizeLine ∧ lcl f xs ρ' (acc ++ [d]) k
    | none => lcl f xs ρ' acc k
/-- .. of two walks, one within the other -/
def lcx (f : D → En → List D → (List D → En → Prop) → Prop) : List D → En → List D → (List D → En → Prop) → Prop
  | [], ρ, acc, k => k acc ρ
  | x :: xs, ρ, acc, k => f x ρ acc fun acc' ρ' => lcx f xs ρ' acc' k
def rngL (a b : Int) : List D := (List.range (b - a).toNat).map fun i => .int (a + (i : Nat))
def enumL (xs : List D) : List D := xs.zipIdx.map fun p => .tuple [.int (p.2 : Nat), p.1]
def zipL (xs ys : List D) : List D := (xs.zip ys).map fun p => .tuple [p.1, p.2]
def rngC (a c : Int) (n : Nat) : List D := (List.range n).map fun i => .int (a + (i : Nat) * c)
def enumK (d : D) (k : List D → Prop) : Prop := match d with
  | .list xs => k (enumL xs)
  | .tuple xs => k (enumL xs)
  | _ => False
def zipK (d e : D) (k : List D → Prop) : Prop := match d, e with
  | .list xs, .list ys => k (zipL xs ys)
  | .tuple xs, .tuple ys => k (zipL xs ys)
  | _, _ => False
/-- sorted(set(d)): whatever list without doubles has the same members in order -/
def ssetK (d : D) (k : List D → Prop) : Prop := match d with
  | .list xs => xs.length + 1 < scanBound ∧ ((∃ ks : List Str, xs = ks.map .str ∧ ∀ bs, SG.Outc SG.leS ks bs → k (bs.map .str)) ∨ (∃ ks : List Int, xs = ks.map .int ∧ ∀ bs, SG.Outc (· ≤ ·) ks bs → k (bs.map .int)))
  | .tuple xs => xs.length + 1 < scanBound ∧ ((∃ ks : List Str, xs = ks.map .str ∧ ∀ bs, SG.Outc SG.leS ks bs → k (bs.map .str)) ∨ (∃ ks : List Int, xs = ks.map .int ∧ ∀ bs, SG.Outc (· ≤ ·) ks bs → k (bs.map .int)))
  | _ => False
/-- a slot's data, own or not -/
def slotD (ρ : En) (i : Nat) (k : D → Prop) : Prop := match ρ[i]? with
  | some (some (.d x)) => k x
  | some (some (.own x)) => k x
  | _ => False
/-- xs.index(d) -/
def ixofD (x d : D) (k : Int → Prop) : Prop := match x with
  | .list ds => SeqAt.shaped (.list ds) = true ∧ SeqAt.shaped d = true ∧ ∃ (j : Nat) (z : D), ds[j]? = some z ∧ PyData.eqv z d = true ∧ (∀ (m : Nat) (z' : D), m < j → ds[m]? = some z' → PyData.eqv z' d = false) ∧ k j
  | _ => False
mutual
def ev (C : Ctx) : Ex → En → (RV → En → Prop) → Prop
  | .var i, ρ, k => match ρ[i]? with
    | some (some (.d x)) => k (.d x) ρ
    | some (some (.own _)) => k (.o i) ρ
    | some (some .box) => k .box ρ
    | _ => False
  | .gl c, ρ, k => ∃ d, C.cst c = some d ∧ k (.d d) ρ
  | .int n, ρ, k => k (.d (.int n)) ρ
  | .str s, ρ, k => k (.d (.str s)) ρ
  | .bl b, ρ, k => k (.d (.bool b)) ρ
  | .non, ρ, k => k (.d .none) ρ
  | .tup es, ρ, k => evs C es ρ fun vs ρ' => capAll vs fun ds => k (.d (.tuple ds)) ρ'
  | .lst es, ρ, k => evs C es ρ fun vs ρ' => capAll vs fun ds => k (.d (.list ds)) ρ'
  | .bin op a b, ρ, k => ev C a ρ fun x ρ1 => ev C b ρ1 fun y ρ2 => bor ρ2 x fun dx => bor ρ2 y fun dy => binD op dx dy fun z => k (.d z) ρ2
  | .neg a, ρ, k => ev C a ρ fun x ρ1 => bor ρ1 x fun dx => ∃ n, dx = .int n ∧ k (.d (.int (-n))) ρ1
  | .not a, ρ, k => ev C a ρ fun x ρ1 => bor ρ1 x fun dx => truthD dx fun c => k (.d (.bool (!c))) ρ1
  | .and es, ρ, k => evAnd C es ρ k
  | .or es, ρ, k => evOr C es ρ k
  | .cmp op a b, ρ, k => ev C a ρ fun x ρ1 => ev C b ρ1 fun y ρ2 => bor ρ2 x fun dx => bor ρ2 y fun dy => cmpD op dx dy fun z => k (.d (.bool z)) ρ2
  | .chn op op' a b c, ρ, k => ev C a ρ fun x ρ1 => ev C b ρ1 fun y ρ2 => bor ρ2 x fun dx => bor ρ2 y fun dy => cmpD op dx dy fun z =>
      if z = true then ev C c ρ2 fun w ρ3 => bor ρ3 y fun dy => bor ρ3 w fun dw => cmpD op' dy dw fun z' => k (.d (.bool z')) ρ3 else k (.d (.bool false)) ρ2
  | .ite c a b, ρ, k => ev C c ρ fun x ρ1 => bor ρ1 x fun dx => truthD dx fun t => if t = true then ev C a ρ1 k else ev C b ρ1 k
  | .idx a i, ρ, k => ev C a ρ fun x ρ1 => ev C i ρ1 fun y ρ2 => bor ρ2 x fun dx => bor ρ2 y fun dy => ixD dx dy fun z => k (.d z) ρ2
  | .slc a lo hi, ρ, k => ev C a ρ fun x ρ1 => evo C lo ρ1 fun l ρ2 => evo C hi ρ2 fun h ρ3 => bor ρ3 x fun dx => slD dx l h fun z => k (.d z) ρ3
  | .rev a, ρ, k => ev C a ρ fun x ρ1 => bor ρ1 x fun dx => revD dx fun z => k (.d z) ρ1
  | .call f es, ρ, k => evs C es ρ fun vs ρ1 => argAll ρ1 vs fun as => C.call f as fun d => (vs.any isO = false ∨ flat d = true) ∧ k (.d d) ρ1
  | .bi b es, ρ, k => evs C es ρ fun vs ρ1 => borAll ρ1 vs fun ds => biD b ds fun d => k (.d d) ρ1
  | .isi a t, ρ, k => ev C a ρ fun x ρ1 => bor ρ1 x fun dx => k (.d (.bool (isiD dx t))) ρ1
  | .pop0 i, ρ, k => match ρ[i]? with
    | some (some (.own (.list xs))) => ∃ d, xs[xs.length - 1]? = some d ∧ k (.d d) (ρ.set i (some (.own (.list xs.dropLast))))
    | _ => False
  | .popA i e, ρ, k => isOwn ρ i ∧ ev C e ρ fun v ρ1 => bor ρ1 v fun y => match ρ1[i]? with
    | some (some (.own (.list xs))) => ∃ n j d, y = .int n ∧ (-(2 ^ 63) ≤ n ∧ n < 2 ^ 63) ∧ ixN xs.length n = some j ∧ xs[j]? = some d ∧ k (.d d) (ρ1.set i (some (.own (.list (xs.eraseIdx j)))))
    | _ => False
  | .lc elt vs tg it cs, ρ, k => itv C it ρ fun xs ρ1 =>
      lcl (fun x ρ2 k2 => tgt tg x (wipeR ρ2 vs) fun ρ3 => evc C cs ρ3 fun b ρ4 => if b = true then ev C elt ρ4 fun v ρ5 => cap v fun d => k2 (some d) ρ5 else k2 none ρ4) xs ρ1 [] fun acc ρ6 => k (.d (.list acc)) (back ρ1 ρ6 vs)
  | .lc2 elt vs tg it cs vs2 tg2 it2 cs2, ρ, k => itv C it ρ fun xs ρ1 =>
      lcx (fun x ρ2 acc k2 => tgt tg x (wipeR ρ2 vs) fun ρ3 => evc C cs ρ3 fun b ρ4 => if b = true then
        itv C it2 ρ4 fun ys ρ5 => lcl (fun y ρ6 k3 => tgt tg2 y (wipeR ρ6 vs2) fun ρ7 => evc C cs2 ρ7 fun b ρ8 => if b = true then ev C elt ρ8 fun v ρ9 => cap v fun d => k3 (some d) ρ9 else k3 none ρ8) ys ρ5 acc k2
        else k2 acc ρ4) xs ρ1 [] fun acc ρ6 => k (.d (.list acc)) (back ρ1 ρ6 vs)
  | .listI it, ρ, k => itv C it ρ fun xs ρ1 => xs.length ≤ sizeLine ∧ k (.d (.list xs)) ρ1
  | .tupI it, ρ, k => itv C it ρ fun xs ρ1 => xs.length ≤ sizeLine ∧ k (.d (.tuple xs)) ρ1
  | .sset e, ρ, k => ev C e ρ fun v ρ1 => bor ρ1 v fun d => ssetK d fun r => k (.d (.list r)) ρ1
  | .ixof i e, ρ, k => slotD ρ i fun x => isiD x .list = true ∧ ev C e ρ fun v ρ1 => slotD ρ1 i fun x => bor ρ1 v fun d => ixofD x d fun j => k (.d (.int j)) ρ1
  | .bad, _, _ => False
def evAnd (C : Ctx) : Es → En → (RV → En → Prop) → Prop
  | .nil, _, _ => False
  | .cons e es, ρ, k => match es with
    | .nil => ev C e ρ k
    | .cons _ _ => ev C e ρ fun x ρ1 => bor ρ1 x fun dx => truthD dx fun c => if c = true then evAnd C es ρ1 k else k x ρ1
def evOr (C : Ctx) : Es → En → (RV → En → Prop) → Prop
  | .nil, _, _ => False
  | .cons e es, ρ, k => match es with
    | .nil => ev C e ρ k
    | .cons _ _ => ev C e ρ fun x ρ1 => bor ρ1 x fun dx => truthD dx fun c => if c = true then k x ρ1 else evOr C es ρ1 k
def evs (C : Ctx) : Es → En → (List RV → En → Prop) → Prop
  | .nil, ρ, k => k [] ρ
  | .cons e es, ρ, k => ev C e ρ fun v ρ1 => evs C es ρ1 fun vs ρ2 => k (v :: vs) ρ2
def evo (C : Ctx) : Eo → En → (Option Int → En → Prop) → Prop
  | .none, ρ, k => k none ρ
  | .some e, ρ, k => ev C e ρ fun v ρ1 => bor ρ1 v fun d => ∃ n, d = .int n ∧ k (some n) ρ1
/-- a comprehension's tests -/
def evc (C : Ctx) : Es → En → (Bool → En → Prop) → Prop
  | .nil, ρ, k => k true ρ
  | .cons e es, ρ, k => ev C e ρ fun v ρ1 => bor ρ1 v fun d => truthD d fun c => if c = true then evc C es ρ1 k else k false ρ1
/-- what is walked -/
def itv (C : Ctx) : It → En → (List D → En → Prop) → Prop
  | .seq e, ρ, k => ev C e ρ fun v ρ1 => cap v fun d => match d with
    | .list xs => k xs ρ1
    | .tuple xs => k xs ρ1
    | .str s => k (s.cps.toList.map fun c => .str ⟨#[c]⟩) ρ1
    | _ => False
  | .rng1 a, ρ, k => ev C a ρ fun v ρ1 => bor ρ1 v fun d => ∃ n, d = .int n ∧ (-(2 ^ 62) ≤ n ∧ n < 2 ^ 62) ∧ k (rngL 0 n) ρ1
  | .rng2 a b, ρ, k => ev C a ρ fun v ρ1 => ev C b ρ1 fun w ρ2 => bor ρ2 v fun d => bor ρ2 w fun e => ∃ n m, d = .int n ∧ e = .int m ∧ (-(2 ^ 62) ≤ n ∧ n < 2 ^ 62 ∧ -(2 ^ 62) ≤ m ∧ m < 2 ^ 62) ∧ k (rngL n m) ρ2
  | .rng3 a b c, ρ, k => ev C a ρ fun v ρ1 => ev C b ρ1 fun w ρ2 => ev C c ρ2 fun u ρ3 => bor ρ3 v fun d => bor ρ3 w fun e => bor ρ3 u fun f => ∃ n m s t, d = .int n ∧ e = .int m ∧ f = .int s ∧ RgC n m s t ∧ k (rngC n s t) ρ3
  | .enum e, ρ, k => ev C e ρ fun v ρ1 => cap v fun d => enumK d fun xs => k xs ρ1
  | .zip a b, ρ, k => ev C a ρ fun v ρ1 => ev C b ρ1 fun w ρ2 => cap v fun d => cap w fun e => zipK d e fun xs => k xs ρ2
end
/-- expressions whose lists are new -/
def frs0 : Ex → Bool
  | .lst _ => true
  | .bin .. => true
  | .slc .. => true
  | .bi b _ => match b with | .min => false | .max => false | _ => true
  | .lc .. => true
  | .lc2 .. => true
  | .listI _ => true
  | .sset _ => true
  | _ => false
/-! ### statements -/
mutual
inductive S where
  | asg (tg : Tg) (e : Ex)
  | own (i : Nat) (e : Ex)
  | frz (i : Nat)
  | par2 (i j : Nat) (oi oj : Bool) (a b : Ex)
  | aug (i : Nat) (op : Operator) (e : Ex)
  | app (i : Nat) (e : Ex) | ext (i : Nat) (e : Ex)
  | setI (i : Nat) (ix e : Ex)
  | drop (e : Ex)
  | ifs (c : Ex) (a b : Ss)
  | forS (tg : Tg) (it : It) (b : Ss)
  | whl (c : Ex) (b : Ss)
  | ret (e : Ex) | retN | brk | cnt | pass
inductive Ss where
  | nil | cons (s : S) (ss : Ss)
end
structure Ends where
  nx : En → Prop
  rt : D → Prop
  bk : En → Prop
  ct : En → Prop
def evT (C : Ctx) (e : Ex) (ρ : En) (k : Bool → En → Prop) : Prop := ev C e ρ fun rv ρ' => bor ρ' rv fun d => truthD d fun b => k b ρ'
def slotV (o : Bool) (d : D) : Vl := if o = true then .own d else .d d
def slotOk (o : Bool) (e : Ex) (d : D) : Prop := o = true → frs0 e = true ∧ ∃ xs, d = .list xs
/-- a for's turns -/
def forL (f : D → En → (En → Prop) → Prop) : List D → En → (En → Prop) → Prop
  | [], ρ, k => k ρ
  | x :: xs, ρ, k => f x ρ fun ρ' => forL f xs ρ' k
mutual
def exec (C : Ctx) : S → En → Ends → Prop
  | .asg tg e, ρ, K => ev C e ρ fun v ρ1 => cap v fun d => tgt tg d ρ1 K.nx
  | .own i e, ρ, K => frs0 e = true ∧ ev C e ρ fun v ρ1 => cap v fun d => ∃ xs, d = .list xs ∧ K.nx (ρ1.set i (some (.own d)))
  | .frz i, ρ, K => match ρ[i]? with
    | some (some (.own x)) => K.nx (ρ.set i (some (.d x)))
    | _ => K.nx ρ
  | .par2 i j oi oj a b, ρ, K => ev C a ρ fun v ρ1 => ev C b ρ1 fun w ρ2 => cap v fun d => cap w fun e => slotOk oi a d ∧ slotOk oj b e ∧ K.nx ((ρ2.set i (some (slotV oi d))).set j (some (slotV oj e)))
  | .aug i op e, ρ, K => match ρ[i]? with
    | some (some (.d (.int x))) => ev C e ρ fun v ρ1 => bor ρ1 v fun y => ∃ n, y = .int n ∧ ((op = .Add ∧ K.nx (ρ1.set i (some (.d (.int (x + n)))))) ∨ (op = .Sub ∧ K.nx (ρ1.set i (some (.d (.int (x - n)))))))
    | _ => False
  | .app i e, ρ, K => isOwn ρ i ∧ ev C e ρ fun v ρ1 => cap v fun d => match ρ1[i]? with
    | some (some (.own (.list xs))) => xs.length < sizeLine ∧ K.nx (ρ1.set i (some (.own (.list (xs ++ [d])))))
    | _ => False
  | .ext i e, ρ, K => isOwn ρ i ∧ ev C e ρ fun v ρ1 => bor ρ1 v fun d => match ρ1[i]? with
    | some (some (.own (.list xs))) => ∃ ys, d = .list ys ∧ xs.length + ys.length ≤ sizeLine ∧ K.nx (ρ1.set i (some (.own (.list (xs ++ ys)))))
    | _ => False
  | .setI i ix e, ρ, K => ev C e ρ fun v ρ1 => isOwn ρ1 i ∧ ev C ix ρ1 fun w ρ2 => cap v fun d => bor ρ2 w fun di => match ρ2[i]? with
    | some (some (.own (.list xs))) => ∃ n j, di = .int n ∧ ixN xs.length n = some j ∧ K.nx (ρ2.set i (some (.own (.list (xs.set j d)))))
    | _ => False
  | .drop e, ρ, K => ev C e ρ fun _ ρ1 => K.nx ρ1
  | .ifs c a b, ρ, K => evT C c ρ fun t ρ1 => if t = true then execs C a ρ1 K else execs C b ρ1 K
  | .forS tg it b, ρ, K => itv C it ρ fun xs ρ1 => forL (fun x ρ2 k => tgt tg x ρ2 fun ρ3 => execs C b ρ3 ⟨k, K.rt, K.nx, k⟩) xs ρ1 K.nx
  | .whl c b, ρ, K => ∃ W : Nat → En → Prop, (∃ m, W m ρ) ∧ ∀ m ρ, W m ρ → evT C c ρ fun t ρ1 => if t = true then execs C b ρ1 ⟨fun ρ2 => ∃ m', m' < m ∧ W m' ρ2, K.rt, K.nx, fun ρ2 => ∃ m', m' < m ∧ W m' ρ2⟩ else K.nx ρ1
  | .ret e, ρ, K => ev C e ρ fun v ρ1 => bor ρ1 v K.rt
  | .retN, _, K => K.rt .none
  | .brk, ρ, K => K.bk ρ
  | .cnt, ρ, K => K.ct ρ
  | .pass, ρ, K => K.nx ρ
def execs (C : Ctx) : Ss → En → Ends → Prop
  | .nil, ρ, K => K.nx ρ
  | .cons s ss, ρ, K => exec C s ρ ⟨fun ρ' => execs C ss ρ' K, K.rt, K.bk, K.ct⟩
end
end DD

/-! DD3: operators and built-ins on values that stand for data. -/
namespace DD
open PySem PySem.Spec PyProof.Rows L2 PySem.W

/-- a result: it stood already, or it is one new object -/
def NewRes (fr : Bool) (K : PySem.W.Frag) (Hh H H' : Hp) (v : V) (d : D) : Prop :=
  (H' = H ∧ Dd K Hh v d ∧ (fr = true → ∀ ds, d ≠ .list ds)) ∨ ∃ p o, H p = none ∧ H' = upd H p o ∧ v = .ref p ∧ ((∃ vs ds, o = .lst vs ∧ d = .list ds ∧ DdAll K Hh vs ds) ∨ (∃ vs ds, o = .tup vs ∧ d = .tuple ds ∧ DdAll K Hh vs ds))
theorem NewRes.sub {fr : Bool} {K : PySem.W.Frag} {Hh H H' : Hp} {v : V} {d : D} (h : NewRes fr K Hh H H' v d) : Sub H H' := by
  rcases h with ⟨rfl, _⟩ | ⟨p, o, hp, rfl, _⟩
  · exact Sub.refl _
  · exact Sub.new hp
/-- what is wanted of a result -/
def Res (fr : Bool) (K : PySem.W.Frag) (Hh H : Hp) (kd : D → Prop) (Q : VK) : Prop := ∀ d v H', NewRes fr K Hh H H' v d → kd d → Q v H'
section
variable {fr : Bool} {K : PySem.W.Frag} {Hh H : Hp} {kd : D → Prop} {Q : VK}
theorem Res.old (r : Res fr K Hh H kd Q) {d : D} {v : V} (h : Dd K Hh v d) (k : kd d) (hf : fr = true → ∀ ds, d ≠ .list ds := by first | exact (fun z => absurd z (by decide)) | (intro _ _ z; cases z)) : Q v H := r d v H (.inl ⟨rfl, h, hf⟩) k
theorem Res.lst (r : Res fr K Hh H kd Q) {ds : List D} {vs : List V} (h : DdAll K Hh vs ds) (k : kd (.list ds)) : ∀ p, H p = none → Q (.ref p) (upd H p (.lst vs)) := fun p hp => r _ _ _ (.inr ⟨p, _, hp, rfl, rfl, .inl ⟨vs, ds, rfl, rfl, h⟩⟩) k
theorem Res.tup (r : Res fr K Hh H kd Q) {ds : List D} {vs : List V} (h : DdAll K Hh vs ds) (k : kd (.tuple ds)) : ∀ p, H p = none → Q (.ref p) (upd H p (.tup vs)) := fun p hp => r _ _ _ (.inr ⟨p, _, hp, rfl, rfl, .inr ⟨vs, ds, rfl, rfl, h⟩⟩) k
end

def rBin (K : PySem.W.Frag) (op : Operator) : R2 := fun x y H Q => ∃ Hh dx dy kd, Sub Hh H ∧ Dc K Hh H x dx ∧ Dc K Hh H y dy ∧ binD op dx dy kd ∧ Res true K Hh H kd Q
theorem flatten_rep {K : PySem.W.Frag} {H : Hp} {vs : List V} {ds : List D} (h : DdAll K H vs ds) : ∀ n : Nat, DdAll K H (List.replicate n vs).flatten (List.replicate n ds).flatten
  | 0 => .nil
  | n + 1 => by rw [List.replicate_succ, List.replicate_succ, List.flatten_cons, List.flatten_cons]; exact dpa_append h (flatten_rep h n)
section
variable {X : Cx}
theorem op_bin (op : Operator) : OpR X (binaryOp op) (rBin X.K op) := by
  intro pins s σ H x y v u Q I rx ry h
  obtain ⟨Hh, dx, dy, kd, sb, hx, hy, hb, r⟩ := h
  unfold binD at hb
  split at hb
  · cases hx; cases hy
    exact op_add pins s σ H _ _ v u Q I rx ry ⟨_, _, rfl, rfl, r.old (.int _) hb⟩
  · cases hx; cases hy
    exact op_add_str pins s σ H _ _ v u Q I rx ry ⟨_, _, rfl, rfl, hb.1, r.old (.str _) hb.2⟩
  · cases hx with | lst h1 q1 => cases hy with | lst h2 q2 =>
    exact op_cat pins s σ H _ _ v u Q I rx ry ⟨_, _, _, _, rfl, rfl, h1, h2, by rw [dpa_len q1, dpa_len q2]; exact hb.1, r.lst (dpa_append q1 q2) hb.2⟩
  · cases hx with | tup h1 q1 => cases hy with | tup h2 q2 =>
    refine op_catA pins s σ H _ _ v u Q I rx ry ⟨_, _, _, _, rfl, rfl, sqt_sub sb h1, sqt_sub sb h2, by rw [dpa_len q1, dpa_len q2]; exact hb.1, fun e => ?_, fun e e2 => ?_, fun _ _ => r.tup (dpa_append q1 q2) hb.2⟩
    · subst e; cases q1; exact r.old (.tup h2 q2) hb.2
    · subst e2; cases q2; exact r.old (.tup h1 q1) (by simpa using hb.2)
  · cases hx; cases hy
    exact op_sub pins s σ H _ _ v u Q I rx ry ⟨_, _, rfl, rfl, r.old (.int _) hb⟩
  · cases hx; cases hy
    rcases hb.1 with c | c
    · exact op_mul pins s σ H _ _ v u Q I rx ry ⟨_, _, rfl, rfl, c, r.old (.int _) hb.2⟩
    · exact op_mulW pins s σ H _ _ v u Q I rx ry ⟨_, _, rfl, rfl, c, r.old (.int _) hb.2⟩
  · cases hy; cases hx with | lst h1 q1 =>
    obtain ⟨⟨a, b, c⟩, k⟩ := hb
    exact op_rep pins s σ H _ _ v u Q I rx ry ⟨_, _, _, rfl, rfl, h1, a, b, by rw [dpa_len q1]; exact c, r.lst (flatten_rep q1 _) k⟩
  · cases hy; cases hx with | tup h1 q1 =>
    obtain ⟨⟨a, b, c, e⟩, k⟩ := hb
    refine op_repT pins s σ H _ _ v u Q I rx ry ⟨_, _, _, rfl, rfl, sqt_sub sb h1, fun z => a ?_, b, c, by rw [dpa_len q1]; exact e, r.tup (flatten_rep q1 _) k⟩
    subst z; cases q1; rfl
  · cases hx; cases hy
    exact op_fdivW pins s σ H _ _ v u Q I rx ry ⟨_, _, rfl, rfl, hb.1, r.old (.int _) hb.2⟩
  · cases hx; cases hy
    exact op_mod pins s σ H _ _ v u Q I rx ry ⟨_, _, rfl, rfl, hb.1, r.old (.int _) hb.2⟩
  · cases hx; cases hy
    exact op_pow pins s σ H _ _ v u Q I rx ry ⟨_, _, rfl, rfl, hb.1, r.old (.int _) hb.2⟩
  · cases hx; cases hy
    exact op_shl pins s σ H _ _ v u Q I rx ry ⟨_, _, rfl, rfl, hb.1, r.old (.int _) hb.2⟩
  · exact hb.elim
end

mutual
theorem Dd.plain {K : PySem.W.Frag} {H : Hp} : ∀ {d : D} {v : V}, Dd K H v d → d.plain = true
  | .none, _, .non => rfl
  | .bool b, _, .bl _ => rfl
  | .int i, _, .int _ => rfl
  | .str x, _, .str _ => rfl
  | .list ds, _, .lst h1 h2 => by rw [PyData.plain]; exact DdAll.plain h2
  | .tuple ds, _, .tup h1 h2 => by rw [PyData.plain]; exact DdAll.plain h2
theorem DdAll.plain {K : PySem.W.Frag} {H : Hp} : ∀ {ds : List D} {vs : List V}, DdAll K H vs ds → PyData.plainAll ds = true
  | [], _, .nil => rfl
  | _ :: _, _, .cons h1 h2 => by rw [PyData.plainAll, Dd.plain h1, DdAll.plain h2]; rfl
end
section
variable {X : Cx} {pins : List (Addr × Obj)} {σ : L2.St} {H Hh : Hp} {s : Shared}
theorem Dd.reads (I : Inv X pins σ H s) {d : D} {v : V} {u : Value} (h : Dd X.K H v d) (r : RelV v u) : ∃ as, Reads s.heap u d as := Dp.reads I d v u h.dp r
theorem DdAll.reads (I : Inv X pins σ H s) {ds : List D} {vs : List V} {us : List Value} (h : DdAll X.K H vs ds) (r : Vals vs us) : ∃ as, ReadsAll s.heap us ds as := Dp.readsAll I ds vs us h.dp r

def rCmp (K : PySem.W.Frag) (op : CmpOp) : R2 := fun x y H Q => ∃ Hh dx dy kd, Sub Hh H ∧ Dc K Hh H x dx ∧ Dc K Hh H y dy ∧ cmpD op dx dy kd ∧ ∀ b, kd b → Q (.bl b) H
theorem inS {X : Cx} {op : CmpOp} (hop : op = .In ∨ op = .NotIn) (hu : X.A.units + 128 < cLine) {Hh : Hp} {x y : V} {v u : Value} {dx dy : D} {kd : Bool → Prop} {Q : VK} (I : Inv X pins σ H s) (rx : RelV x v) (ry : RelV y u) (sb : Sub Hh H)
    (hx : Dc X.K Hh H x dx) (hy : Dc X.K Hh H y dy) (hc : inD dx dy kd) (q : ∀ b, kd b → Q (.bl (if op = .In then b else !b)) H) : wpAny (model X.prog X.w) X.A (compareOp op v u) (EP X pins σ Q) X.xe s := by
  unfold inD at hc
  split at hc
  · rename_i ys
    obtain ⟨c, k⟩ := hc
    have py := (hy.dd sb).plain
    rw [PyData.plain] at py
    obtain ⟨as, r1⟩ := (hx.dd sb).reads I rx
    obtain ⟨bs, r2⟩ := (hy.dd sb).reads I ry
    rcases hop with rfl | rfl
    · exact SeqAt.in_list_data r2 r1 py (hx.dd sb).plain (by omega) ⟨.bl _, H, I, rfl, q _ k⟩
    · exact SeqAt.notIn_list_data r2 r1 py (hx.dd sb).plain (by omega) ⟨.bl _, H, I, rfl, q _ k⟩
  · rename_i ys
    obtain ⟨c, k⟩ := hc
    have py := (hy.dd sb).plain
    rw [PyData.plain] at py
    obtain ⟨as, r1⟩ := (hx.dd sb).reads I rx
    obtain ⟨bs, r2⟩ := (hy.dd sb).reads I ry
    rcases hop with rfl | rfl
    · exact SeqAt.in_tuple_data r2 r1 py (hx.dd sb).plain (by omega) ⟨.bl _, H, I, rfl, q _ k⟩
    · exact SeqAt.notIn_tuple_data r2 r1 py (hx.dd sb).plain (by omega) ⟨.bl _, H, I, rfl, q _ k⟩
  · obtain ⟨c, rfl, k⟩ := hc
    cases hx; cases hy
    rcases hop with rfl | rfl
    · exact op_in_sign pins s σ H _ _ v u Q I rx ry ⟨c, _, rfl, rfl, q _ k⟩
    · exact op_notIn_sign pins s σ H _ _ v u Q I rx ry ⟨c, _, rfl, rfl, q _ k⟩
  · exact hc.elim
theorem isS {X : Cx} {op : CmpOp} (hop : op = .Is ∨ op = .IsNot) {Hh : Hp} {x y : V} {v u : Value} {dx dy : D} {kd : Bool → Prop} {Q : VK} (I : Inv X pins σ H s) (rx : RelV x v) (ry : RelV y u)
    (hx : Dc X.K Hh H x dx) (hy : Dc X.K Hh H y dy) (hc : isD dx dy kd) (q : ∀ b, kd b → Q (.bl (if op = .Is then b else !b)) H) : wpAny (model X.prog X.w) X.A (compareOp op v u) (EP X pins σ Q) X.xe s := by
  have toN : ∀ b, decide (x = V.non) = b → y = V.non → kd b → wpAny (model X.prog X.w) X.A (compareOp op v u) (EP X pins σ Q) X.xe s := fun b e en k => by
    rcases hop with rfl | rfl
    · exact op_isN pins s σ H _ _ v u Q I rx ry ⟨en, by rw [e]; exact q _ k⟩
    · exact op_notN pins s σ H _ _ v u Q I rx ry ⟨en, by rw [e]; exact q _ k⟩
  unfold isD at hc
  split at hc
  · cases hx; cases hy; exact toN true (by simp) rfl hc
  · cases hx; cases hy
    rcases hop with rfl | rfl
    · exact op_isBl pins s σ H _ _ v u Q I rx ry ⟨_, _, rfl, rfl, q _ hc⟩
    · exact op_notBl pins s σ H _ _ v u Q I rx ry ⟨_, _, rfl, rfl, q _ hc⟩
  · cases hx; cases hy; exact toN false (by simp) rfl hc
  · cases hx; cases hy; exact toN false (by simp) rfl hc
  · cases hx; cases hy; exact toN false (by simp) rfl hc
  · cases hx; cases hy; exact toN false (by simp) rfl hc
  · cases hx; cases hy; exact toN false (by simp) rfl hc
  · exact hc.elim
theorem op_cmp {X : Cx} (hu : X.A.units + 128 < cLine) (op : CmpOp) : OpR X (compareOp op) (rCmp X.K op) := by
  intro pins s σ H x y v u Q I rx ry h
  obtain ⟨Hh, dx, dy, kd, sb, hx, hy, hc, q⟩ := h
  have h1 := hx.dd sb
  have h2 := hy.dd sb
  obtain ⟨as, r1⟩ := h1.reads I rx
  obtain ⟨bs, r2⟩ := h2.reads I ry
  cases op with
  | Eq => exact SeqAt.eq_plain r1 r2 h1.plain h2.plain (by have := hc.1; unfold CmpOk at this; omega) ⟨.bl _, H, I, rfl, q _ hc.2⟩
  | NotEq => exact SeqAt.ne_plain r1 r2 h1.plain h2.plain (by have := hc.1; unfold CmpOk at this; omega) ⟨.bl _, H, I, rfl, q _ hc.2⟩
  | Lt => exact PySem.W.lt_data r1 r2 hc.1.1 hc.1.2.1 (by have := hc.1.2.2; omega) ⟨.bl _, H, I, rfl, q _ hc.2⟩
  | Gt => exact PySem.W.gt_data r1 r2 hc.1.1 hc.1.2.1 (by have := hc.1.2.2; omega) ⟨.bl _, H, I, rfl, q _ hc.2⟩
  | LtE => exact PySem.W.le_data r1 r2 hc.1.1 hc.1.2.1 (by have := hc.1.2.2; omega) ⟨.bl _, H, I, rfl, q _ hc.2⟩
  | GtE => exact PySem.W.ge_data r1 r2 hc.1.1 hc.1.2.1 (by have := hc.1.2.2; omega) ⟨.bl _, H, I, rfl, q _ hc.2⟩
  | In => exact inS (.inl rfl) hu I rx ry sb hx hy hc q
  | NotIn => exact inS (kd := fun c => kd (!c)) (.inr rfl) hu I rx ry sb hx hy hc fun b k => q _ k
  | Is => exact isS (.inl rfl) I rx ry hx hy hc q
  | IsNot => exact isS (kd := fun c => kd (!c)) (.inr rfl) I rx ry hx hy hc fun b k => q _ k

/-! ### truth -/
theorem tru_of {K : PySem.W.Frag} {x : V} {d : D} {k : Bool → Prop} (sb : Sub Hh H) (h : Dc K Hh H x d) (t : truthD d k) : ∃ b, TruV K x H b ∧ k b := by
  cases h with
  | non => exact ⟨_, rfl, t⟩
  | bl b => exact ⟨_, rfl, t⟩
  | int i => exact ⟨_, rfl, t⟩
  | str z => exact ⟨_, ⟨t.1, rfl⟩, t.2⟩
  | lst h1 h2 =>
    refine ⟨_, .inl ⟨_, SqL.of h1, rfl⟩, ?_⟩
    have e : ∀ {vs : List V} {ds : List D}, DdAll K Hh vs ds → (!vs.isEmpty) = !ds.isEmpty := fun q => by cases q <;> rfl
    rw [e h2]; exact t
  | tup h1 h2 =>
    refine ⟨_, .inr (.inl ⟨_, sqt_sub sb h1, rfl⟩), ?_⟩
    have e : ∀ {vs : List V} {ds : List D}, DdAll K Hh vs ds → (!vs.isEmpty) = !ds.isEmpty := fun q => by cases q <;> rfl
    rw [e h2]; exact t

/-! ### subscripts, slices -/
theorem atI_dd {K : PySem.W.Frag} {H : Hp} {vs : List V} {ds : List D} {i : Int} {d : D} (h : DdAll K H vs ds) (e : atI ds i = some d) : ∃ v, atI vs i = some v ∧ Dd K H v d := by
  unfold atI at e ⊢
  rw [dpa_len h]
  cases q : ixN ds.length i with
  | none => rw [q] at e; cases e
  | some j =>
    rw [q] at e
    exact dpa_get h e
def rIx2 (K : PySem.W.Frag) : R2 := fun x y H Q => ∃ Hh dx dy kd, Sub Hh H ∧ Dc K Hh H x dx ∧ Dc K Hh H y dy ∧ ixD dx dy kd ∧ Res false K Hh H kd Q
theorem ix_dd {X : Cx} : IxR X (rIx2 X.K) := by
  intro value slice pins s σ H x y v u Q I rx ry h hs
  obtain ⟨Hh, dx, dy, kd, sb, hx, hy, hc, r⟩ := h
  unfold ixD at hc
  split at hc
  · obtain ⟨d, e, k⟩ := hc
    cases hy
    cases hx with | lst h1 h2 =>
    obtain ⟨w, e', hw⟩ := atI_dd h2 e
    exact ix_list value slice pins s σ H _ _ v u Q I rx ry ⟨_, _, _, _, rfl, rfl, SqL.of h1, e', r.old hw k⟩ hs
  · obtain ⟨d, e, k⟩ := hc
    cases hy
    cases hx with | tup h1 h2 =>
    obtain ⟨w, e', hw⟩ := atI_dd h2 e
    exact ix_tup value slice pins s σ H _ _ v u Q I rx ry ⟨_, _, _, _, rfl, rfl, sqt_sub sb h1, e', r.old hw k⟩ hs
  · obtain ⟨hz, c, e, k⟩ := hc
    cases hy; cases hx
    exact ix_str value slice pins s σ H _ _ v u Q I rx ry ⟨_, _, _, rfl, rfl, hz, e, r.old (.str _) k⟩ hs
  · exact hc.elim
theorem cut_dd {K : PySem.W.Frag} {H : Hp} {vs : List V} {ds : List D} (lo hi : Option Int) (h : DdAll K H vs ds) : DdAll K H (cutV vs lo hi) (cutL ds lo hi) := by
  unfold cutV cutL
  rw [dpa_len h]
  exact dpa_take _ (dpa_drop _ h)
def rSl2 (K : PySem.W.Frag) : V → Option Int → Option Int → Hp → VK → Prop := fun x lo hi H Q => ∃ Hh dx kd, Sub Hh H ∧ Dc K Hh H x dx ∧ slD dx lo hi kd ∧ Res true K Hh H kd Q
theorem sl_dd {X : Cx} : SlR X (rSl2 X.K) := by
  intro pins s σ H x v vl vu lo hi sl Q I rx hs pl pu h
  obtain ⟨Hh, dx, kd, sb, hx, hc, r⟩ := h
  unfold slD at hc
  split at hc
  · cases hx with | lst h1 h2 =>
    exact sl_list pins s σ H _ v vl vu lo hi sl Q I rx hs pl pu ⟨_, _, rfl, SqL.of h1, r.lst (cut_dd lo hi h2) hc⟩
  · cases hx with | tup h1 h2 =>
    refine sl_tupA pins s σ H _ v vl vu lo hi sl Q I rx hs pl pu ⟨_, _, rfl, sqt_sub sb h1, fun e => ?_, fun _ => r.tup (cut_dd lo hi h2) hc⟩
    refine r.old (.tup h1 h2) ?_
    rw [dpa_len h2] at e
    unfold cutL at hc
    rw [e.1, e.2] at hc
    simpa using hc
  · cases hx
    exact sl_str pins s σ H _ v vl vu lo hi sl Q I rx hs pl pu ⟨_, rfl, hc.1, r.old (.str _) hc.2⟩
  · exact hc.elim
end
end DD

/-! DD4: built-ins by values. -/
namespace DD
open PySem PySem.Spec PyProof.Rows L2 PySem.W

inductive DcAll (K : PySem.W.Frag) (Hh H : Hp) : List V → List D → Prop
  | nil : DcAll K Hh H [] []
  | cons {v : V} {vs : List V} {d : D} {ds : List D} : Dc K Hh H v d → DcAll K Hh H vs ds → DcAll K Hh H (v :: vs) (d :: ds)
theorem DcAll.one {K : PySem.W.Frag} {Hh H : Hp} {vs : List V} {d : D} (h : DcAll K Hh H vs [d]) : ∃ v, vs = [v] ∧ Dc K Hh H v d := by
  cases h with | cons a b => cases b; exact ⟨_, rfl, a⟩
theorem DcAll.two {K : PySem.W.Frag} {Hh H : Hp} {vs : List V} {d e : D} (h : DcAll K Hh H vs [d, e]) : ∃ v w, vs = [v, w] ∧ Dc K Hh H v d ∧ Dc K Hh H w e := by
  cases h with | cons a b => cases b with | cons c d => cases d; exact ⟨_, _, rfl, a, c⟩
def frB : Bi → Bool
  | .min => false | .max => false | _ => true
def rBi (K : PySem.W.Frag) (b : Bi) : List V → Hp → VK → Prop := fun vs H Q => ∃ Hh ds kd, Sub Hh H ∧ DcAll K Hh H vs ds ∧ biD b ds kd ∧ Res (frB b) K Hh H kd Q
theorem sumI_ints : ∀ {ds : List D} {n : Int} {K : PySem.W.Frag} {H : Hp} {vs : List V}, sumI ds = some n → DdAll K H vs ds → ∃ ns : List Int, vs = ns.map V.int ∧ ns.sum = n
  | [], n, _, _, _, h, .nil => ⟨[], rfl, by simpa [sumI] using h⟩
  | .int x :: r, n, K, H, _ :: vs, h, .cons h1 h2 => by
    simp only [sumI] at h
    cases q : sumI r with
    | none => rw [q] at h; cases h
    | some m =>
      rw [q] at h
      obtain ⟨ns, e, es⟩ := sumI_ints q h2
      cases h1
      exact ⟨x :: ns, by rw [e]; rfl, by rw [List.sum_cons, es]; exact Option.some.inj h⟩
theorem bools_of {K : PySem.W.Frag} {H : Hp} : ∀ {bs : List Bool} {vs : List V}, DdAll K H vs (bs.map .bool) → vs = bs.map V.bl
  | [], _, .nil => rfl
  | b :: bs, _ :: vs, .cons h1 h2 => by cases h1; rw [bools_of h2]; rfl
section
variable {X : Cx}
theorem cr_len : CallR X (.builtin "len") (rBi X.K .len) := by
  intro pins s σ H vs us Q I rv h
  obtain ⟨Hh, ds, kd, sb, hv, hb, r⟩ := h
  unfold biD at hb
  split at hb <;> first | contradiction | skip
  · obtain ⟨v, rfl, h1⟩ := hv.one
    cases h1 with | lst a b =>
    exact call_len_seq pins s σ H _ us Q I rv ⟨_, _, rfl, .inl (SqL.of a), by rw [dpa_len b]; exact r.old (.int _) hb⟩
  · obtain ⟨v, rfl, h1⟩ := hv.one
    cases h1 with | tup a b =>
    exact call_len_seq pins s σ H _ us Q I rv ⟨_, _, rfl, .inr (sqt_sub sb a), by rw [dpa_len b]; exact r.old (.int _) hb⟩
  · obtain ⟨v, rfl, h1⟩ := hv.one
    cases h1
    exact call_len_str pins s σ H _ us Q I rv ⟨_, rfl, hb.1, r.old (.int _) hb.2⟩
theorem cr_abs : CallR X (.builtin "abs") (rBi X.K .abs) := by
  intro pins s σ H vs us Q I rv h
  obtain ⟨Hh, ds, kd, sb, hv, hb, r⟩ := h
  unfold biD at hb
  split at hb <;> first | contradiction | skip
  obtain ⟨v, rfl, h1⟩ := hv.one
  cases h1
  exact call_abs pins s σ H _ us Q I rv ⟨_, rfl, r.old (.int _) hb⟩
theorem cr_int : CallR X (.type "int") (rBi X.K .int) := by
  intro pins s σ H vs us Q I rv h
  obtain ⟨Hh, ds, kd, sb, hv, hb, r⟩ := h
  unfold biD at hb
  split at hb <;> first | contradiction | skip
  · obtain ⟨v, rfl, h1⟩ := hv.one
    cases h1
    exact call_int1 pins s σ H _ us Q I rv (.inl ⟨_, rfl, r.old (.int _) hb⟩)
  · obtain ⟨v, rfl, h1⟩ := hv.one
    cases h1
    exact call_int1 pins s σ H _ us Q I rv (.inr ⟨_, rfl, r.old (.int _) hb⟩)
theorem cr_str : CallR X (.type "str") (rBi X.K .str) := by
  intro pins s σ H vs us Q I rv h
  obtain ⟨Hh, ds, kd, sb, hv, hb, r⟩ := h
  unfold biD at hb
  split at hb <;> first | contradiction | skip
  obtain ⟨v, rfl, h1⟩ := hv.one
  cases h1
  exact call_str_int pins s σ H _ us Q I rv ⟨_, rfl, hb.1, r.old (.str _) hb.2⟩
theorem cr_sumD (hc : X.calm = true) : CallR X (.builtin "sum") (rBi X.K .sum) := by
  intro pins s σ H vs us Q I rv h
  obtain ⟨Hh, ds, kd, sb, hv, hb, r⟩ := h
  unfold biD at hb
  split at hb <;> first | contradiction | skip
  obtain ⟨n, e, k⟩ := hb
  obtain ⟨v, rfl, h1⟩ := hv.one
  cases h1 with | lst a b =>
  obtain ⟨ns, rfl, rfl⟩ := sumI_ints e b
  exact cr_sum hc pins s σ H _ us Q I rv ⟨_, _, rfl, SqL.of a, r.old (.int _) k⟩
theorem seqOf_dc0 {K : PySem.W.Frag} {Hh H : Hp} {a : D} {ds : List D} {v : V} (sb : Sub Hh H) (h : Dc K Hh H v a) (e : seqOf a = some ds) : ∃ p vs, v = .ref p ∧ DdAll K Hh vs ds ∧ (SqL K H p vs ∨ SqT K H p vs) := by
  cases h with
  | lst x y => cases e; exact ⟨_, _, rfl, y, .inl (SqL.of x)⟩
  | tup x y => cases e; exact ⟨_, _, rfl, y, .inr (sqt_sub sb x)⟩
  | _ => cases e
theorem cr_allD (hc : X.calm = true) : CallR X (.builtin "all") (rBi X.K .all) := by
  intro pins s σ H vs us Q I rv h
  obtain ⟨Hh, ds, kd, sb, hv, hb, r⟩ := h
  unfold biD at hb
  split at hb <;> first | contradiction | skip
  obtain ⟨ys, e, hf, k⟩ := hb
  obtain ⟨v, rfl, h1⟩ := hv.one
  obtain ⟨p, ws, rfl, hd, hs⟩ := seqOf_dc0 sb h1 e
  rw [Vals.ref1 rv]
  rcases hs with hs | hs
  · obtain ⟨its, r2, hl, _⟩ := I.list hs
    obtain ⟨as, hr⟩ := DdAll.reads I (dpall_sub sb hd) r2
    exact PySem.W.all_list_data (I.ok.hd hc) hl.isList (by simpa using hr) (DdAll.plain hd) hf fun h' tk keep => ⟨.bl _, H, I.kept (t' := tk) keep, rfl, r.old (.bl _) k⟩
  · obtain ⟨its, r2, hl, _⟩ := I.tuple hs
    obtain ⟨as, hr⟩ := DdAll.reads I (dpall_sub sb hd) r2
    exact PySem.W.all_tuple_data (I.ok.hd hc) (show s.heap.IsTuple p its.toArray from hl) (by simpa using hr) (DdAll.plain hd) hf fun h' tk keep => ⟨.bl _, H, I.kept (t' := tk) keep, rfl, r.old (.bl _) k⟩
theorem cr_anyD (hc : X.calm = true) : CallR X (.builtin "any") (rBi X.K .any) := by
  intro pins s σ H vs us Q I rv h
  obtain ⟨Hh, ds, kd, sb, hv, hb, r⟩ := h
  unfold biD at hb
  split at hb <;> first | contradiction | skip
  obtain ⟨ys, e, hf, k⟩ := hb
  obtain ⟨v, rfl, h1⟩ := hv.one
  obtain ⟨p, ws, rfl, hd, hs⟩ := seqOf_dc0 sb h1 e
  rw [Vals.ref1 rv]
  rcases hs with hs | hs
  · obtain ⟨its, r2, hl, _⟩ := I.list hs
    obtain ⟨as, hr⟩ := DdAll.reads I (dpall_sub sb hd) r2
    exact PySem.W.any_list_data (I.ok.hd hc) hl.isList (by simpa using hr) (DdAll.plain hd) hf fun h' tk keep => ⟨.bl _, H, I.kept (t' := tk) keep, rfl, r.old (.bl _) k⟩
  · obtain ⟨its, r2, hl, _⟩ := I.tuple hs
    obtain ⟨as, hr⟩ := DdAll.reads I (dpall_sub sb hd) r2
    exact PySem.W.any_tuple_data (I.ok.hd hc) (show s.heap.IsTuple p its.toArray from hl) (by simpa using hr) (DdAll.plain hd) hf fun h' tk keep => ⟨.bl _, H, I.kept (t' := tk) keep, rfl, r.old (.bl _) k⟩
theorem cr_min2D (hc : X.calm = true) : CallR X (.builtin "min") (rBi X.K .min2) := by
  intro pins s σ H vs us Q I rv h
  obtain ⟨Hh, ds, kd, sb, hv, hb, r⟩ := h
  unfold biD at hb
  split at hb <;> first | contradiction | skip
  obtain ⟨v, w, rfl, h1, h2⟩ := hv.two
  cases h1; cases h2
  exact call_min2 hc pins s σ H _ us Q I rv ⟨_, _, rfl, r.old (.int _) hb⟩
theorem cr_max2D (hc : X.calm = true) : CallR X (.builtin "max") (rBi X.K .max2) := by
  intro pins s σ H vs us Q I rv h
  obtain ⟨Hh, ds, kd, sb, hv, hb, r⟩ := h
  unfold biD at hb
  split at hb <;> first | contradiction | skip
  obtain ⟨v, w, rfl, h1, h2⟩ := hv.two
  cases h1; cases h2
  exact call_max2 hc pins s σ H _ us Q I rv ⟨_, _, rfl, r.old (.int _) hb⟩
theorem cr_list : CallR X (.type "list") (rBi X.K .list) := by
  intro pins s σ H vs us Q I rv h
  obtain ⟨Hh, ds, kd, sb, hv, hb, r⟩ := h
  unfold biD at hb
  split at hb <;> first | contradiction | skip
  · obtain ⟨v, rfl, h1⟩ := hv.one
    cases h1 with | lst a b =>
    exact call_list_of pins s σ H _ us Q I rv ⟨_, _, rfl, .inl (SqL.of a), r.lst b hb⟩
  · obtain ⟨v, rfl, h1⟩ := hv.one
    cases h1 with | tup a b =>
    exact call_list_of pins s σ H _ us Q I rv ⟨_, _, rfl, .inr (sqt_sub sb a), r.lst b hb⟩
theorem cr_tuple : CallR X (.type "tuple") (rBi X.K .tuple) := by
  intro pins s σ H vs us Q I rv h
  obtain ⟨Hh, ds, kd, sb, hv, hb, r⟩ := h
  unfold biD at hb
  split at hb <;> first | contradiction | skip
  · obtain ⟨v, rfl, h1⟩ := hv.one
    cases h1 with | lst a b =>
    exact call_tuple_of pins s σ H _ us Q I rv ⟨_, _, rfl, .inl ⟨SqL.of a, r.tup b hb⟩⟩
  · obtain ⟨v, rfl, h1⟩ := hv.one
    cases h1 with | tup a b =>
    exact call_tuple_of pins s σ H _ us Q I rv ⟨_, _, rfl, .inr ⟨sqt_sub sb a, r.old (.tup a b) hb⟩⟩

/-! ### min, max of a list or a tuple -/
theorem pick_of {pins : List (Addr × Obj)} {σ : L2.St} {H Hh : Hp} {s : Shared} {kd : D → Prop} {Q : VK} (I : Inv X pins σ H s) (sb : Sub Hh H) (r : Res false X.K Hh H kd Q) {vs : List V} {ds : List D} {its : List Value} (hd : DdAll X.K Hh vs ds) (rv : Vals vs its)
    {i : Nat} {v : Value} {h' : Heap} {tk : Nat} {bs : List Addr} {m : D} (hi : its.toArray[i]? = some v) (rm : Reads h' v m bs) (keep : ∀ b o, s.heap.get? b = some o → h'.get? b = some o) (k : kd m) :
    EP X pins σ Q v { s with heap := h', toks := tk } := by
  have hi' : its[i]? = some v := by simpa using hi
  have hlen := rv.length
  have hlt : i < vs.length := by rw [hlen]; exact (List.getElem?_eq_some_iff.mp hi').1
  obtain ⟨u, e1, r1⟩ := Vals.get rv (List.getElem?_eq_getElem hlt)
  rw [hi'] at e1; cases e1
  obtain ⟨d, e2, q2⟩ := dpa_getV hd (List.getElem?_eq_getElem hlt)
  have I' : Inv X pins σ H { s with heap := h', toks := tk } := I.kept keep
  obtain ⟨as, rd⟩ := (dp_sub sb q2).reads I' r1
  have e := SeqAt.plain_unique d m v as bs q2.plain rd rm
  subst e
  exact ⟨_, H, I', r1, r.old q2 k⟩
theorem seqOf_dc {K : PySem.W.Frag} {Hh H : Hp} {a : D} {ds : List D} {v : V} (sb : Sub Hh H) (h : Dc K Hh H v a) (e : seqOf a = some ds) : ∃ p vs, v = .ref p ∧ DdAll K Hh vs ds ∧ (SqL K H p vs ∨ SqT K H p vs) := by
  cases h with
  | lst x y => cases e; exact ⟨_, _, rfl, y, .inl (SqL.of x)⟩
  | tup x y => cases e; exact ⟨_, _, rfl, y, .inr (sqt_sub sb x)⟩
  | _ => cases e
theorem cr_minD (hc : X.calm = true) (hu : X.A.units + 128 < cLine) : CallR X (.builtin "min") (rBi X.K .min) := by
  intro pins s σ H vs us Q I rv h
  obtain ⟨Hh, ds, kd, sb, hv, hb, r⟩ := h
  unfold biD at hb
  split at hb <;> first | contradiction | skip
  obtain ⟨y, ys, e, ⟨ha, hd⟩, k⟩ := hb
  obtain ⟨v, rfl, h1⟩ := hv.one
  obtain ⟨p, ws, rfl, hw, hs⟩ := seqOf_dc sb h1 e
  rw [Vals.ref1 rv]
  rcases hs with hs | hs
  · obtain ⟨its, r2, hl, _⟩ := I.list hs
    obtain ⟨as, hr⟩ := (dpall_sub sb hw).reads I r2
    exact PySem.W.min_list_data (I.ok.hd hc) hl.isList (by simpa using hr) ha (by omega) fun i v h' tk bs hi rm keep => pick_of I sb r hw r2 hi rm keep k
  · obtain ⟨its, r2, hl, _⟩ := I.tuple hs
    obtain ⟨as, hr⟩ := (dpall_sub sb hw).reads I r2
    exact PySem.W.min_tuple_data (I.ok.hd hc) hl (by simpa using hr) ha (by omega) fun i v h' tk bs hi rm keep => pick_of I sb r hw r2 hi rm keep k
theorem cr_maxD (hc : X.calm = true) (hu : X.A.units + 128 < cLine) : CallR X (.builtin "max") (rBi X.K .max) := by
  intro pins s σ H vs us Q I rv h
  obtain ⟨Hh, ds, kd, sb, hv, hb, r⟩ := h
  unfold biD at hb
  split at hb <;> first | contradiction | skip
  obtain ⟨y, ys, e, ⟨ha, hd⟩, k⟩ := hb
  obtain ⟨v, rfl, h1⟩ := hv.one
  obtain ⟨p, ws, rfl, hw, hs⟩ := seqOf_dc sb h1 e
  rw [Vals.ref1 rv]
  rcases hs with hs | hs
  · obtain ⟨its, r2, hl, _⟩ := I.list hs
    obtain ⟨as, hr⟩ := (dpall_sub sb hw).reads I r2
    exact PySem.W.max_list_data (I.ok.hd hc) hl.isList (by simpa using hr) ha (by omega) fun i v h' tk bs hi rm keep => pick_of I sb r hw r2 hi rm keep k
  · obtain ⟨its, r2, hl, _⟩ := I.tuple hs
    obtain ⟨as, hr⟩ := (dpall_sub sb hw).reads I r2
    exact PySem.W.max_tuple_data (I.ok.hd hc) hl (by simpa using hr) ha (by omega) fun i v h' tk bs hi rm keep => pick_of I sb r hw r2 hi rm keep k

/-! ### sorted of a list -/
theorem each_of {K : PySem.W.Frag} {Hh : Hp} : ∀ {vs : List V} {ds : List D} {us : List Value}, DdAll K Hh vs ds → Vals vs us → EachIs (fun u (b : V × D) => RelV b.1 u ∧ Dd K Hh b.1 b.2) us (vs.zip ds)
  | [], _, _, .nil, .nil => .nil
  | _ :: _, _, _, .cons h1 h2, .cons r1 r2 => .cons ⟨r1, h1⟩ (each_of h2 r2)
theorem of_each {K : PySem.W.Frag} {Hh : Hp} : ∀ {us : List Value} {bs : List (V × D)}, EachIs (fun u (b : V × D) => RelV b.1 u ∧ Dd K Hh b.1 b.2) us bs → Vals (bs.map Prod.fst) us ∧ DdAll K Hh (bs.map Prod.fst) (bs.map Prod.snd)
  | _, _, .nil => ⟨.nil, .nil⟩
  | _, _, .cons ⟨r1, h1⟩ t => let ⟨a, b⟩ := of_each t; ⟨.cons r1 a, .cons h1 b⟩
theorem zip_snd {α β : Type} : ∀ {xs : List α} {ys : List β}, xs.length = ys.length → (xs.zip ys).map Prod.snd = ys
  | [], [], _ => rfl
  | x :: xs, y :: ys, h => by simp only [List.zip_cons_cons, List.map_cons]; rw [zip_snd (by simpa using h)]
theorem depth_mem {d : D} : ∀ {ds : List D}, d ∈ ds → d.depth ≤ PyData.depthAll ds := fun {ds} h => PySem.PyData.depth_le_depthAll ds d h
theorem cr_sortedD (hu : X.A.units + 128 < cLine) : CallR X (.builtin "sorted") (rBi X.K .sorted) := by
  intro pins s σ H vs us Q I rv h
  obtain ⟨Hh, ds, kd, sb, hv, hb, r⟩ := h
  unfold biD at hb
  split at hb <;> first | contradiction | skip
  obtain ⟨ys, e, hnt, ⟨ha, hd⟩, hk, k⟩ := hb
  obtain ⟨v, rfl, h1⟩ := hv.one
  obtain ⟨p, ws, rfl, x, y⟩ : ∃ p ws, v = .ref p ∧ H p = some (.lst ws) ∧ DdAll X.K Hh ws ys := by
    cases h1 with
    | tup x y => exact absurd rfl (hnt _)
    | lst x y => cases e; exact ⟨_, _, rfl, x, y⟩
    | _ => cases e
  rw [Vals.ref1 rv]
  obtain ⟨its, r2, hl, hz⟩ := I.list (SqL.of x)
  have hlen := dpa_len y
  have es := each_of y r2
  have er : EachIs (fun v (b : V × D) => ∃ as, Reads s.heap v b.2 as) its (ws.zip ys) := es.mono fun _ _ q => (dp_sub sb q.2).reads I q.1
  have em := zip_snd hlen
  refine PySem.W.sorted_data (enc := Prod.snd) (R := fun u (b : V × D) => RelV b.1 u ∧ Dd X.K Hh b.1 b.2) hl.isList es er (by rw [em]; exact fun d hd d' hd' => ha.1 d hd d' hd') (by rw [em]; exact hk)
    (by rw [List.length_zip]; omega) (fun b hb => ?_) fun out hout hr => ?_
  · have hm : b.2 ∈ ys := by rw [← em]; exact List.mem_map_of_mem hb
    have := depth_mem hm
    omega
  · obtain ⟨a, b⟩ := of_each hr
    obtain ⟨ep, he'⟩ := PyProof.Rows.sortedAll_at s.heap its out.toArray
    have hlen2 : (((ws.zip ys).mergeSort (dataLe false Prod.snd)).map (Prod.fst (α := V) (β := D))).length ≤ sizeLine := by
      rw [List.length_map, List.length_mergeSort, List.length_zip]; omega
    have ed : (((ws.zip ys).mergeSort (dataLe false Prod.snd)).map (Prod.snd (α := V) (β := D))) = sortD ys := by
      have q := PySem.W.sort_maps (r := dataLe false (Prod.snd (α := V) (β := D))) (s := fun a b => !dataLt b a) Prod.snd (l := ws.zip ys) fun _ _ _ _ => rfl
      rw [q, em]; rfl
    refine ⟨.ref _, _, I.laid (t' := s.toks) (o := .lst _) (fun _ _ => PyProof.Rows.sortedAll_old) (Nat.le_succ _) ⟨hlen2, out, ep, a, by simpa using he'⟩, rfl, ?_⟩
    exact r.lst b (by rw [ed]; exact k) _ (I.hok.fresh (Nat.le_succ _))

/-! ### isinstance -/
def tyN : Ty → String
  | .int => "int" | .bool => "bool" | .str => "str" | .tuple => "tuple" | .list => "list"
theorem cr_isi (t : Ty) : CallR X (.builtin "isinstance") (fun vs H Q => ∃ Hh x d, vs = [x, .ty (tyN t)] ∧ Sub Hh H ∧ Dc X.K Hh H x d ∧ Q (.bl (isiD d t)) H) := by
  intro pins s σ H vs us Q I rv h
  obtain ⟨Hh, x, d, rfl, sb, hd, q⟩ := h
  obtain ⟨u, w, rfl, r1, r2⟩ := vals2 rv
  cases r2
  obtain ⟨as, rd⟩ := (hd.dd sb).reads I r1
  cases t with
  | int => exact PySem.W.isinstance_int_data rd fun tk _ => ⟨.bl _, H, I.tok tk, by cases d <;> rfl, q⟩
  | bool => exact PySem.W.isinstance_bool_data rd fun tk _ => ⟨.bl _, H, I.tok tk, by cases d <;> rfl, q⟩
  | str => exact PySem.W.isinstance_str_data rd fun tk _ => ⟨.bl _, H, I.tok tk, by cases d <;> rfl, q⟩
  | tuple => exact PySem.W.isinstance_tuple_data rd fun tk _ => ⟨.bl _, H, I.tok tk, by cases d <;> rfl, q⟩
  | list => exact PySem.W.isinstance_list_data rd fun tk _ => ⟨.bl _, H, I.tok tk, by cases d <;> rfl, q⟩
end
end DD

/-! DD5: the language's expressions, sound for HandS's judgements. -/
namespace DD
open PySem PySem.Spec PyProof.Rows L2 PySem.W

/-- all addresses that the frame's data keep off -/
abbrev off (Oe F : ASet) : ASet := fun b => Oe b ∨ F b
def RvOk (K : PySem.W.Frag) (Oe F : ASet) (bx : Bx) (σ : L2.St) (H : Hp) (rv : RV) (v : V) : Prop :=
  match rv with
  | .d x => Dd K (hid (off Oe F) H) v x
  | .o i => σ[i]? = some (some v)
  | .box => ∃ B C, bx = some (B, C) ∧ v = .ref B
def FreshAt (K : PySem.W.Frag) (BI : BoxI) (Oe F : ASet) (bx : Bx) (σ : L2.St) (H H' : Hp) (ρ' : En) (v : V) (rv : RV) : Prop :=
  ∀ ds, rv = .d (.list ds) → ∃ p vs, v = .ref p ∧ H p = none ∧ H' p = some (.lst vs) ∧ DdAll K (hid (off (fun b => Oe b ∨ b = p) F) H') vs ds ∧ Rel K BI (fun b => Oe b ∨ b = p) F bx σ H' ρ'
abbrev frs := frs0
section
variable {K : PySem.W.Frag} {BI : BoxI} {Oe F : ASet} {bx : Bx} {σ : L2.St} {H H' : Hp} {ρ : En}
theorem off_sub (e : Ext F H H') : Sub (hid (off Oe F) H) (hid (off Oe F) H') := e.hid fun _ => .inr
theorem rv_ext {rv : RV} {v : V} (o : RvOk K Oe F bx σ H rv v) (e : Ext F H H') : RvOk K Oe F bx σ H' rv v := by
  cases rv with
  | d x => exact dp_sub (off_sub e) o
  | o i => exact o
  | box => exact o
theorem rvs_ext {rvs : List RV} {vs : List V} (e : Ext F H H') (o : Paired (RvOk K Oe F bx σ H) rvs vs) : Paired (RvOk K Oe F bx σ H') rvs vs := Paired.mapP o fun _ _ q => rv_ext q e
theorem bor_dc {rv : RV} {v : V} {k : D → Prop} (r : Rel K BI Oe F bx σ H ρ) (o : RvOk K Oe F bx σ H rv v) (h : bor ρ rv k) : ∃ d, Dc K (hid (off Oe F) H) H v d ∧ k d := by
  cases rv with
  | d x => exact ⟨x, dc_of hid_sub o, h⟩
  | box => exact h.elim
  | o i =>
    simp only [bor] at h
    split at h
    · rename_i x q
      obtain ⟨a, h1, h2, h3, h4⟩ := r.own _ _ q
      have o : σ[i]? = some (some v) := o
      rw [h1] at o; cases o
      exact ⟨_, h4.dc, h⟩
    · exact h.elim
theorem borAll_dc (r : Rel K BI Oe F bx σ H ρ) : ∀ {rvs : List RV} {vs : List V} {k : List D → Prop}, Paired (RvOk K Oe F bx σ H) rvs vs → borAll ρ rvs k → ∃ ds, DcAll K (hid (off Oe F) H) H vs ds ∧ k ds
  | [], _, k, .nil, h => ⟨[], .nil, h⟩
  | _ :: _, _, k, .cons o t, h => by
    obtain ⟨d, hd, h⟩ := bor_dc r o h
    obtain ⟨ds, hds, h⟩ := borAll_dc r t h
    exact ⟨d :: ds, .cons hd hds, h⟩
theorem cap_dd {rv : RV} {v : V} {k : D → Prop} (o : RvOk K Oe F bx σ H rv v) (h : cap rv k) : ∃ d, rv = .d d ∧ Dd K (hid (off Oe F) H) v d ∧ k d := by
  cases rv with
  | d x => exact ⟨x, rfl, o, h⟩
  | o i => exact h.elim
  | box => exact h.elim
theorem capAll_dd : ∀ {rvs : List RV} {vs : List V} {k : List D → Prop}, Paired (RvOk K Oe F bx σ H) rvs vs → capAll rvs k → ∃ ds, DdAll K (hid (off Oe F) H) vs ds ∧ k ds
  | [], _, k, .nil, h => ⟨[], .nil, h⟩
  | _ :: _, _, k, .cons o t, h => by
    obtain ⟨d, _, hd, h⟩ := cap_dd o h
    obtain ⟨ds, hds, h⟩ := capAll_dd t h
    exact ⟨d :: ds, .cons hd hds, h⟩
/-- a new tuple, a new list -/
theorem sub_new {p : Addr} {o : HO} (r : Rel K BI Oe F bx σ H ρ) (hp : H p = none) : Sub (hid (off Oe F) H) (hid (off Oe F) (upd H p o)) := off_sub (Sub.new hp).ext
theorem new_tup {p : Addr} {vs : List V} {ds : List D} (r : Rel K BI Oe F bx σ H ρ) (hp : H p = none) (hd : DdAll K (hid (off Oe F) H) vs ds) : Dd K (hid (off Oe F) (upd H p (.tup vs))) (.ref p) (.tuple ds) :=
  .tup (SqT.of (hid_some.mpr ⟨fun z => r.trk p z hp, upd_same⟩)) (dpall_sub (sub_new r hp) hd)
theorem new_lst {p : Addr} {vs : List V} {ds : List D} (r : Rel K BI Oe F bx σ H ρ) (hp : H p = none) (hd : DdAll K (hid (off Oe F) H) vs ds) : Dd K (hid (off Oe F) (upd H p (.lst vs))) (.ref p) (.list ds) :=
  .lst (hid_some.mpr ⟨fun z => r.trk p z hp, upd_same⟩) (dpall_sub (sub_new r hp) hd)
theorem sub_newF {p : Addr} {o : HO} (hp : H p = none) : Sub (hid (off Oe F) H) (hid (off (fun b => Oe b ∨ b = p) F) (upd H p o)) := fun b u q => by
  obtain ⟨n, q⟩ := hid_some.mp q
  refine hid_some.mpr ⟨?_, Sub.new hp b u q⟩
  rintro ((z | z) | z)
  · exact n (.inl z)
  · exact ne_of_none q hp z
  · exact n (.inr z)
theorem none_back {p : Addr} (r : Rel K BI Oe F bx σ H' ρ) (e : Ext F H H') (hp : H' p = none) : H p = none := by
  cases q : H p with
  | none => rfl
  | some o => rw [e p o q fun z => r.trk p (.inr z) hp] at hp; cases hp
theorem fresh_lst {H0 : Hp} {p : Addr} {vs : List V} {ds : List D} (r : Rel K BI Oe F bx σ H ρ) (e : Ext F H0 H) (hp : H p = none) (hd : DdAll K (hid (off Oe F) H) vs ds) : FreshAt K BI Oe F bx σ H0 (upd H p (.lst vs)) ρ (.ref p) (.d (.list ds)) := fun es q => by
  cases q
  exact ⟨p, vs, rfl, none_back r e hp, upd_same, dpall_sub (sub_newF hp) hd, r.more hp⟩
/-- what a result is worth -/
theorem NewRes.use {fr : Bool} {v : V} {d : D} (n : NewRes fr K (hid (off Oe F) H) H H' v d) (r : Rel K BI Oe F bx σ H ρ) {H0 : Hp} (e : Ext F H0 H) :
    Ext F H0 H' ∧ Rel K BI Oe F bx σ H' ρ ∧ RvOk K Oe F bx σ H' (.d d) v ∧ (fr = true → FreshAt K BI Oe F bx σ H0 H' ρ v (.d d)) := by
  refine ⟨e.trans n.sub.ext, r.sub n.sub, ?_, fun hf => ?_⟩
  · rcases n with ⟨rfl, h, _⟩ | ⟨p, o, hp, rfl, rfl, ⟨vs, ds, rfl, rfl, h⟩ | ⟨vs, ds, rfl, rfl, h⟩⟩
    · exact h
    · exact new_lst r hp h
    · exact new_tup r hp h
  · rcases n with ⟨rfl, h, hn⟩ | ⟨p, o, hp, rfl, rfl, ⟨vs, ds, rfl, rfl, h⟩ | ⟨vs, ds, rfl, rfl, h⟩⟩
    · intro ds q; cases q; exact absurd rfl (hn hf ds)
    · exact fresh_lst r e hp h
    · intro ds q; cases q
end

/-! ### readings -/
section
variable (K : PySem.W.Frag) (BI : BoxI)
def rdG (sem : En → (RV → En → Prop) → Prop) (fr : Bool) : TE := fun σ H Q => ∃ Oe F bx ρ kd, Rel K BI Oe F bx σ H ρ ∧ sem ρ kd ∧
  ∀ rv ρ' v H', Ext F H H' → Rel K BI Oe F bx σ H' ρ' → RvOk K Oe F bx σ H' rv v → (fr = true → FreshAt K BI Oe F bx σ H H' ρ' v rv) → kd rv ρ' → Q v H'
abbrev rdE (C : Ctx) (e : Ex) : TE := rdG K BI (ev C e) (frs e)
def rdT (C : Ctx) (e : Ex) : TT := fun σ H Q => ∃ (Oe F : ASet) (bx : Bx) (ρ : En) (kd : Bool → En → Prop), Rel K BI Oe F bx σ H ρ ∧ ev C e ρ (fun rv ρ' => bor ρ' rv fun d => truthD d fun b => kd b ρ') ∧
  ∀ b ρ' H', Ext F H H' → Rel K BI Oe F bx σ H' ρ' → kd b ρ' → Q b H'
def esLen : Es → Nat
  | .nil => 0
  | .cons _ es => esLen es + 1
def rdA (C : Ctx) (es : Es) : TA := fun σ H Q => ∃ Oe F bx ρ kd, Rel K BI Oe F bx σ H ρ ∧ evs C es ρ kd ∧
  ∀ rvs ρ' vs H', Ext F H H' → Rel K BI Oe F bx σ H' ρ' → Paired (RvOk K Oe F bx σ H') rvs vs → vs.length = esLen es → kd rvs ρ' → Q vs H'
end
theorem pe_imp {X : Cx} {e : Expr} {t t' : TE} (h : PE X e t) (w : ∀ σ H Q, t' σ H Q → t σ H Q) : PE X e t' := ⟨fun pins s σ H Q I q => h.run pins s σ H Q I (w σ H Q q)⟩
theorem pt_imp {X : Cx} {e : Expr} {t t' : TT} (h : PT X e t) (w : ∀ σ H Q, t' σ H Q → t σ H Q) : PT X e t' := ⟨fun pins s σ H Q I q => h.run pins s σ H Q I (w σ H Q q)⟩
theorem pw_imp {X : Cx} {e : Expr} {t t' : TT} (h : PW X e t) (w : ∀ σ H Q, t' σ H Q → t σ H Q) : PW X e t' := ⟨fun wh pins s σ H Q I q => h.run wh pins s σ H Q I (w σ H Q q)⟩
theorem pa_imp {X : Cx} {es : List Expr} {t t' : TA} (h : PA X es t) (w : ∀ σ H Q, t' σ H Q → t σ H Q) : PA X es t' := ⟨fun pos pins s σ H Q I q => h.run pos pins s σ H Q I (w σ H Q q)⟩

section
variable {X : Cx} {BI : BoxI} {C : Ctx} {a b c : Expr} {a' b' c' : Ex} {pos : Pos}
theorem nofr {P : Prop} {e : Ex} (h : frs e = false) : frs e = true → P := fun z => by rw [h] at z; cases z
theorem s_var {i : Nat} {x : Str} (hN : X.N[i]? = some x) (hv : Vis X.env.scope x) (hd : (x == ("__debug__" : Str)) = false) (hcd : (x == ("__classdict__" : Str)) = false) : PE X (.Name x pos) (rdE X.K BI C (.var i)) :=
  pe_imp (pe_var hN hv hd hcd) fun σ H Q ⟨Oe, F, bx, ρ, kd, r, e, post⟩ => by
    simp only [ev] at e
    split at e
    · rename_i x q
      obtain ⟨v, h1, h2⟩ := r.dat _ _ q
      exact ⟨v, h1, post (.d x) ρ v H (Ext.refl _ _) r h2 (nofr rfl) e⟩
    · rename_i x q
      obtain ⟨v, h1, h2⟩ := r.own _ _ q
      exact ⟨.ref v, h1, post (.o i) ρ _ H (Ext.refl _ _) r h1 (nofr rfl) e⟩
    · rename_i q
      obtain ⟨B, C', h1, h2⟩ := r.box _ q
      exact ⟨.ref B, h2, post .box ρ _ H (Ext.refl _ _) r ⟨B, C', h1, rfl⟩ (nofr rfl) e⟩
    · exact e.elim
theorem s_cst {v : V} {d : D} {e' : Ex} (h : PE X a (tC v)) (hd : ∀ H, Dd X.K H v d) (hf : frs e' = false) (he : ∀ ρ k, ev C e' ρ k → k (.d d) ρ) : PE X a (rdE X.K BI C e') :=
  pe_imp h fun σ H Q ⟨Oe, F, bx, ρ, kd, r, e, post⟩ => post (.d d) ρ v H (Ext.refl _ _) r (hd _) (nofr hf) (he _ _ e)
theorem s_int {n : Int} {j : Nat} : PE X (.Constant (.int n) j pos) (rdE X.K BI C (.int n)) := s_cst pe_int (fun _ => .int n) rfl fun _ _ h => h
theorem s_bl {n : Bool} {j : Nat} : PE X (.Constant (.bool n) j pos) (rdE X.K BI C (.bl n)) := s_cst pe_bl (fun _ => .bl n) rfl fun _ _ h => h
theorem s_non {j : Nat} : PE X (.Constant .none j pos) (rdE X.K BI C .non) := s_cst pe_non (fun _ => .non) rfl fun _ _ h => h
theorem s_str {n : Str} {j : Nat} : PE X (.Constant (.str n) j pos) (rdE X.K BI C (.str n)) := s_cst pe_str (fun _ => .str n) rfl fun _ _ h => h
theorem s_gl {x : Str} {v : V} {u : Value} {d : D} {i : Nat} (hg : Gl X x) (hm : X.mg x = some u) (rr : RelV v u) (hdb : (x == ("__debug__" : Str)) = false) (hd : ∀ H, Dd X.K H v d) (hc : ∀ d', C.cst i = some d' → d' = d) : PE X (.Name x pos) (rdE X.K BI C (.gl i)) :=
  s_cst (pe_glob hg hm rr hdb) hd rfl fun ρ k h => by
    obtain ⟨d', e, q⟩ := h
    rw [← hc d' e]; exact q
/-! arguments -/
theorem s_nil : PA X [] (rdA X.K BI C .nil) := pa_imp pa_nil fun σ H Q ⟨Oe, F, bx, ρ, kd, r, e, post⟩ => post [] ρ [] H (Ext.refl _ _) r .nil rfl e
theorem s_cons {es : List Expr} {es' : Es} (ha : PE X a (rdE X.K BI C a')) (hr : PA X es (rdA X.K BI C es')) (hs : starEach (a :: es) X.env = (false, eval a X.env) :: starEach es X.env) : PA X (a :: es) (rdA X.K BI C (.cons a' es')) :=
  pa_imp (pa_cons ha hr hs) fun σ H Q ⟨Oe, F, bx, ρ, kd, r, e, post⟩ => by
    refine ⟨Oe, F, bx, ρ, _, r, e, fun rv ρ1 v H1 e1 r1 o1 _ e => ?_⟩
    refine ⟨Oe, F, bx, ρ1, _, r1, e, fun rvs ρ2 vs H2 e2 r2 o2 l2 e => ?_⟩
    exact post (rv :: rvs) ρ2 (v :: vs) H2 (e1.trans e2) r2 (.cons (rv_ext o1 e2) o2) (by rw [List.length_cons, l2]; rfl) e
theorem s_tup {es : List Expr} {es' : Es} {j : Nat} (h : PA X es (rdA X.K BI C es')) (hl : esLen es' ≤ sizeLine) : PE X (.Tuple es j pos) (rdE X.K BI C (.tup es')) :=
  pe_imp (pe_tup h) fun σ H Q ⟨Oe, F, bx, ρ, kd, r, e, post⟩ => by
    refine ⟨Oe, F, bx, ρ, _, r, e, fun rvs ρ1 vs H1 e1 r1 o1 l1 e => ?_⟩
    obtain ⟨ds, hd, e⟩ := capAll_dd o1 e
    exact ⟨by rw [l1]; exact hl, fun p hp => post (.d (.tuple ds)) ρ1 _ _ (e1.trans (Sub.new hp).ext) (r1.sub (Sub.new hp)) (new_tup r1 hp hd) (nofr rfl) e⟩
theorem s_lst {es : List Expr} {es' : Es} (h : PA X es (rdA X.K BI C es')) (hl : esLen es' ≤ sizeLine) : PE X (.List es pos) (rdE X.K BI C (.lst es')) :=
  pe_imp (pe_lst h) fun σ H Q ⟨Oe, F, bx, ρ, kd, r, e, post⟩ => by
    refine ⟨Oe, F, bx, ρ, _, r, e, fun rvs ρ1 vs H1 e1 r1 o1 l1 e => ?_⟩
    obtain ⟨ds, hd, e⟩ := capAll_dd o1 e
    exact ⟨by rw [l1]; exact hl, fun p hp => post (.d (.list ds)) ρ1 _ _ (e1.trans (Sub.new hp).ext) (r1.sub (Sub.new hp)) (new_lst r1 hp hd) (fun _ => fresh_lst r1 e1 hp hd) e⟩
/-! operators -/
theorem s_bin {op : Operator} (ha : PE X a (rdE X.K BI C a')) (hb : PE X b (rdE X.K BI C b')) : PE X (.BinOp a op b pos) (rdE X.K BI C (.bin op a' b')) :=
  pe_imp (pe_op (op_bin op) ha hb) fun σ H Q ⟨Oe, F, bx, ρ, kd, r, e, post⟩ => by
    refine ⟨Oe, F, bx, ρ, _, r, e, fun x ρ1 v H1 e1 r1 o1 _ e => ?_⟩
    refine ⟨Oe, F, bx, ρ1, _, r1, e, fun y ρ2 u H2 e2 r2 o2 _ e => ?_⟩
    obtain ⟨dx, hx, e⟩ := bor_dc r2 (rv_ext o1 e2) e
    obtain ⟨dy, hy, e⟩ := bor_dc r2 o2 e
    refine ⟨_, dx, dy, _, hid_sub, hx, hy, e, fun d w H3 n k => ?_⟩
    obtain ⟨q1, q2, q3, q4⟩ := n.use r2 (e1.trans e2)
    exact post (.d d) ρ2 w H3 q1 q2 q3 (fun _ => q4 rfl) k
theorem s_neg (ha : PE X a (rdE X.K BI C a')) : PE X (.UnaryOp .USub a pos) (rdE X.K BI C (.neg a')) :=
  pe_imp (pe_un un_neg ha) fun σ H Q ⟨Oe, F, bx, ρ, kd, r, e, post⟩ => by
    refine ⟨Oe, F, bx, ρ, _, r, e, fun x ρ1 v H1 e1 r1 o1 _ e => ?_⟩
    obtain ⟨dx, hx, n, rfl, e⟩ := bor_dc r1 o1 e
    cases hx
    exact ⟨_, rfl, post (.d (.int (-n))) ρ1 _ H1 e1 r1 (.int _) (nofr rfl) e⟩
theorem s_not (ha : PE X a (rdE X.K BI C a')) : PE X (.UnaryOp .Not a pos) (rdE X.K BI C (.not a')) :=
  pe_imp (pe_notT ha) fun σ H Q ⟨Oe, F, bx, ρ, kd, r, e, post⟩ => by
    refine ⟨Oe, F, bx, ρ, _, r, e, fun x ρ1 v H1 e1 r1 o1 _ e => ?_⟩
    obtain ⟨dx, hx, e⟩ := bor_dc r1 o1 e
    obtain ⟨k, ht, e⟩ := tru_of hid_sub hx e
    exact ⟨k, ht, post (.d (.bool (!k))) ρ1 _ H1 e1 r1 (.bl _) (nofr rfl) e⟩
theorem s_and1 (ha : PE X a (rdE X.K BI C a')) : PE X (.BoolOp .And [a] pos) (rdG X.K BI (evAnd C (.cons a' .nil)) false) :=
  pe_imp (pe_one ha) fun σ H Q ⟨Oe, F, bx, ρ, kd, r, e, post⟩ => ⟨Oe, F, bx, ρ, kd, r, e, fun x ρ1 v H1 e1 r1 o1 _ e => post x ρ1 v H1 e1 r1 o1 (fun z => by cases z) e⟩
theorem s_and2 {rest : List Expr} {e2 : Ex} {es : Es} (ha : PE X a (rdE X.K BI C a')) (hb : PE X (.BoolOp .And (b :: rest) pos) (rdG X.K BI (evAnd C (.cons e2 es)) false)) :
    PE X (.BoolOp .And (a :: b :: rest) pos) (rdG X.K BI (evAnd C (.cons a' (.cons e2 es))) false) :=
  pe_imp (pe_andT ha hb) fun σ H Q ⟨Oe, F, bx, ρ, kd, r, e, post⟩ => by
    refine ⟨Oe, F, bx, ρ, _, r, e, fun x ρ1 v H1 e1 r1 o1 _ e => ?_⟩
    obtain ⟨dx, hx, e⟩ := bor_dc r1 o1 e
    obtain ⟨k, ht, e⟩ := tru_of hid_sub hx e
    refine ⟨k, ht, ?_⟩
    cases k with
    | true => exact ⟨Oe, F, bx, ρ1, kd, r1, e, fun y ρ2 u H2 e2 r2 o2 f2 e => post y ρ2 u H2 (e1.trans e2) r2 o2 (fun z => by cases z) e⟩
    | false => exact post x ρ1 v H1 e1 r1 o1 (fun z => by cases z) e
theorem s_or1 (ha : PE X a (rdE X.K BI C a')) : PE X (.BoolOp .Or [a] pos) (rdG X.K BI (evOr C (.cons a' .nil)) false) :=
  pe_imp (pe_one ha) fun σ H Q ⟨Oe, F, bx, ρ, kd, r, e, post⟩ => ⟨Oe, F, bx, ρ, kd, r, e, fun x ρ1 v H1 e1 r1 o1 _ e => post x ρ1 v H1 e1 r1 o1 (fun z => by cases z) e⟩
theorem s_or2 {rest : List Expr} {e2 : Ex} {es : Es} (ha : PE X a (rdE X.K BI C a')) (hb : PE X (.BoolOp .Or (b :: rest) pos) (rdG X.K BI (evOr C (.cons e2 es)) false)) :
    PE X (.BoolOp .Or (a :: b :: rest) pos) (rdG X.K BI (evOr C (.cons a' (.cons e2 es))) false) :=
  pe_imp (pe_orT ha hb) fun σ H Q ⟨Oe, F, bx, ρ, kd, r, e, post⟩ => by
    refine ⟨Oe, F, bx, ρ, _, r, e, fun x ρ1 v H1 e1 r1 o1 _ e => ?_⟩
    obtain ⟨dx, hx, e⟩ := bor_dc r1 o1 e
    obtain ⟨k, ht, e⟩ := tru_of hid_sub hx e
    refine ⟨k, ht, ?_⟩
    cases k with
    | false => exact ⟨Oe, F, bx, ρ1, kd, r1, e, fun y ρ2 u H2 e2 r2 o2 f2 e => post y ρ2 u H2 (e1.trans e2) r2 o2 (fun z => by cases z) e⟩
    | true => exact post x ρ1 v H1 e1 r1 o1 (fun z => by cases z) e
theorem s_cmp {op : CmpOp} (hu : X.A.units + 128 < cLine) (ha : PE X a (rdE X.K BI C a')) (hb : PE X b (rdE X.K BI C b')) (hm : behindInMarks op b = false) : PE X (.Compare a [op] [b] pos) (rdE X.K BI C (.cmp op a' b')) :=
  pe_imp (pe_cmpR (op_cmp hu op) ha hb hm) fun σ H Q ⟨Oe, F, bx, ρ, kd, r, e, post⟩ => by
    refine ⟨Oe, F, bx, ρ, _, r, e, fun x ρ1 v H1 e1 r1 o1 _ e => ?_⟩
    refine ⟨Oe, F, bx, ρ1, _, r1, e, fun y ρ2 u H2 e2 r2 o2 _ e => ?_⟩
    obtain ⟨dx, hx, e⟩ := bor_dc r2 (rv_ext o1 e2) e
    obtain ⟨dy, hy, e⟩ := bor_dc r2 o2 e
    exact ⟨_, dx, dy, _, hid_sub, hx, hy, e, fun z k => post (.d (.bool z)) ρ2 _ H2 (e1.trans e2) r2 (.bl _) (nofr rfl) k⟩
theorem s_chn {op op' : CmpOp} (hu : X.A.units + 128 < cLine) (ha : PE X a (rdE X.K BI C a')) (hb : PE X b (rdE X.K BI C b')) (hc : PE X c (rdE X.K BI C c')) (hm : lastMarks [op, op'] [b, c] = false) :
    PE X (.Compare a [op, op'] [b, c] pos) (rdE X.K BI C (.chn op op' a' b' c')) :=
  pe_imp (pe_chain (op_cmp hu op) (op_cmp hu op') ha hb hc hm) fun σ H Q ⟨Oe, F, bx, ρ, kd, r, e, post⟩ => by
    refine ⟨Oe, F, bx, ρ, _, r, e, fun x ρ1 v H1 e1 r1 o1 _ e => ?_⟩
    refine ⟨Oe, F, bx, ρ1, _, r1, e, fun y ρ2 u H2 e2 r2 o2 _ e => ?_⟩
    obtain ⟨dx, hx, e⟩ := bor_dc r2 (rv_ext o1 e2) e
    obtain ⟨dy, hy, e⟩ := bor_dc r2 o2 e
    refine ⟨_, dx, dy, _, hid_sub, hx, hy, e, fun z e => ⟨z, rfl, ?_⟩⟩
    cases z with
    | false => exact post (.d (.bool false)) ρ2 _ H2 (e1.trans e2) r2 (.bl _) (nofr rfl) e
    | true =>
      refine ⟨Oe, F, bx, ρ2, _, r2, e, fun w ρ3 u3 H3 e3 r3 o3 _ e => ?_⟩
      obtain ⟨dy, hy, e⟩ := bor_dc r3 (rv_ext o2 e3) e
      obtain ⟨dw, hw, e⟩ := bor_dc r3 o3 e
      exact ⟨_, dy, dw, _, hid_sub, hy, hw, e, fun z k => post (.d (.bool z)) ρ3 _ H3 ((e1.trans e2).trans e3) r3 (.bl _) (nofr rfl) k⟩
theorem s_ite (hc : PT X c (rdT X.K BI C c')) (ha : PE X a (rdE X.K BI C a')) (hb : PE X b (rdE X.K BI C b')) : PE X (.IfExp c a b pos) (rdE X.K BI C (.ite c' a' b')) :=
  pe_imp (pe_ifExp hc ha hb) fun σ H Q ⟨Oe, F, bx, ρ, kd, r, e, post⟩ => by
    refine ⟨Oe, F, bx, ρ, fun t ρ1 => if t = true then ev C a' ρ1 kd else ev C b' ρ1 kd, r, e, fun t ρ1 H1 e1 r1 e => ?_⟩
    cases t with
    | true => exact ⟨Oe, F, bx, ρ1, kd, r1, e, fun y ρ2 u H2 e2 r2 o2 _ e => post y ρ2 u H2 (e1.trans e2) r2 o2 (nofr rfl) e⟩
    | false => exact ⟨Oe, F, bx, ρ1, kd, r1, e, fun y ρ2 u H2 e2 r2 o2 _ e => post y ρ2 u H2 (e1.trans e2) r2 o2 (nofr rfl) e⟩
theorem s_idx (ha : PE X a (rdE X.K BI C a')) (hb : PE X b (rdE X.K BI C b')) (hs : PlainIx b) : PE X (.Subscript a b pos) (rdE X.K BI C (.idx a' b')) :=
  pe_imp (pe_ix ix_dd ha hb hs) fun σ H Q ⟨Oe, F, bx, ρ, kd, r, e, post⟩ => by
    refine ⟨Oe, F, bx, ρ, _, r, e, fun x ρ1 v H1 e1 r1 o1 _ e => ?_⟩
    refine ⟨Oe, F, bx, ρ1, _, r1, e, fun y ρ2 u H2 e2 r2 o2 _ e => ?_⟩
    obtain ⟨dx, hx, e⟩ := bor_dc r2 (rv_ext o1 e2) e
    obtain ⟨dy, hy, e⟩ := bor_dc r2 o2 e
    refine ⟨_, dx, dy, _, hid_sub, hx, hy, e, fun d w H3 n k => ?_⟩
    obtain ⟨q1, q2, q3, q4⟩ := n.use r2 (e1.trans e2)
    exact post (.d d) ρ2 w H3 q1 q2 q3 (nofr rfl) k
/-! slices -/
def rdO (K : PySem.W.Frag) (BI : BoxI) (C : Ctx) (o : Eo) : TO := fun σ H Q => ∃ Oe F bx ρ kd, Rel K BI Oe F bx σ H ρ ∧ evo C o ρ kd ∧ ∀ l ρ' H', Ext F H H' → Rel K BI Oe F bx σ H' ρ' → kd l ρ' → Q l H'
theorem po_imp {o : Option Expr} {t t' : TO} (h : PO X o t) (w : ∀ σ H Q, t' σ H Q → t σ H Q) : PO X o t' := ⟨fun pins s σ H Q I q => h.run pins s σ H Q I (w σ H Q q)⟩
theorem s_onone : PO X none (rdO X.K BI C .none) := po_imp po_none fun σ H Q ⟨Oe, F, bx, ρ, kd, r, e, post⟩ => post none ρ H (Ext.refl _ _) r e
theorem s_osome (ha : PE X a (rdE X.K BI C a')) : PO X (some a) (rdO X.K BI C (.some a')) := po_imp (po_some ha) fun σ H Q ⟨Oe, F, bx, ρ, kd, r, e, post⟩ => by
  refine ⟨Oe, F, bx, ρ, _, r, e, fun x ρ1 v H1 e1 r1 o1 _ e => ?_⟩
  obtain ⟨dx, hx, n, rfl, e⟩ := bor_dc r1 o1 e
  cases hx
  exact ⟨n, rfl, post (some n) ρ1 H1 e1 r1 e⟩
theorem s_slc {lo hi : Option Expr} {lo' hi' : Eo} {p2 : Pos} (ha : PE X a (rdE X.K BI C a')) (hl : PO X lo (rdO X.K BI C lo')) (hh : PO X hi (rdO X.K BI C hi')) : PE X (.Subscript a (.Slice lo hi none p2) pos) (rdE X.K BI C (.slc a' lo' hi')) :=
  pe_imp (pe_slice sl_dd ha hl hh) fun σ H Q ⟨Oe, F, bx, ρ, kd, r, e, post⟩ => by
    refine ⟨Oe, F, bx, ρ, _, r, e, fun x ρ1 v H1 e1 r1 o1 _ e => ?_⟩
    refine ⟨Oe, F, bx, ρ1, _, r1, e, fun l ρ2 H2 e2 r2 e => ?_⟩
    refine ⟨Oe, F, bx, ρ2, _, r2, e, fun h ρ3 H3 e3 r3 e => ?_⟩
    obtain ⟨dx, hx, e⟩ := bor_dc r3 (rv_ext o1 (e2.trans e3)) e
    refine ⟨_, dx, _, hid_sub, hx, e, fun d w H4 n k => ?_⟩
    obtain ⟨q1, q2, q3, q4⟩ := n.use r3 ((e1.trans e2).trans e3)
    exact post (.d d) ρ3 w H4 q1 q2 q3 (fun _ => q4 rfl) k
/-! built-ins -/
theorem s_bi {es : List Expr} {es' : Es} {bi : Bi} (h : ∀ {t : TA}, PA X es t → PE X a (tCB (rBi X.K bi) t)) (hp : PA X es (rdA X.K BI C es')) : PE X a (rdE X.K BI C (.bi bi es')) :=
  pe_imp (h hp) fun σ H Q ⟨Oe, F, bx, ρ, kd, r, e, post⟩ => by
    refine ⟨Oe, F, bx, ρ, _, r, e, fun rvs ρ1 vs H1 e1 r1 o1 l1 e => ?_⟩
    obtain ⟨ds, hds, e⟩ := borAll_dc r1 o1 e
    refine ⟨_, ds, _, hid_sub, hds, e, fun d w H2 n k => ?_⟩
    obtain ⟨q1, q2, q3, q4⟩ := n.use r1 e1
    exact post (.d d) ρ1 w H2 q1 q2 q3 q4 k
/-! tests -/
theorem s_truth (ha : PE X a (rdE X.K BI C a')) (he : ∀ whole, isTrue a X.env whole = (do let v ← whole; standAt a.pos; holding [v] (truthy v))) : PT X a (rdT X.K BI C a') :=
  pt_imp (pt_truth ha he) fun σ H Q ⟨Oe, F, bx, ρ, kd, r, e, post⟩ => by
    refine ⟨Oe, F, bx, ρ, _, r, e, fun x ρ1 v H1 e1 r1 o1 _ e => ?_⟩
    obtain ⟨dx, hx, e⟩ := bor_dc r1 o1 e
    obtain ⟨k, ht, e⟩ := tru_of hid_sub hx e
    exact ⟨k, ht, post k ρ1 H1 e1 r1 e⟩
end
end DD

/-! DD6: tests, targets, what is walked, comprehensions, calls. -/
namespace DD
open PySem PySem.Spec PyProof.Rows L2 PySem.W

section
variable {K : PySem.W.Frag} {BI : BoxI} {Oe F : ASet} {bx : Bx} {σ σ' : L2.St} {H H' : Hp} {ρ ρ' : En}
/-- other slots, the same heap -/
theorem Rel.slots (r : Rel K BI Oe F bx σ H ρ) (hl : ρ'.length = σ'.length)
    (each : ∀ (j : Nat) (val : Vl), ρ'[j]? = some (some val) → (ρ[j]? = some (some val) ∧ σ'[j]? = σ[j]?) ∨ ∃ x v, val = .d x ∧ σ'[j]? = some (some v) ∧ Dd K (hid (off Oe F) H) v x) : Rel K BI Oe F bx σ' H ρ' := by
  refine ⟨hl, fun i x q => ?_, fun i x q => ?_, fun i j x y hij q q' => ?_, fun i q => ?_, fun i q => ?_, r.bok, r.trk, r.dis⟩
  · rcases each i _ q with ⟨h, e⟩ | ⟨y, v, e, h1, h2⟩
    · rw [e]; exact r.dat i x h
    · cases e; exact ⟨v, h1, h2⟩
  · rcases each i _ q with ⟨h, e⟩ | ⟨y, v, e, h1, h2⟩
    · rw [e]; exact r.own i x h
    · cases e
  · rcases each i _ q with ⟨h, e⟩ | ⟨_, _, e, _⟩
    · rcases each j _ q' with ⟨h', e'⟩ | ⟨_, _, e', _⟩
      · rw [e, e']; exact r.sep i j x y hij h h'
      · cases e'
    · cases e
  · rcases each i _ q with ⟨h, e⟩ | ⟨y, v, e, h1, h2⟩
    · rw [e]; exact r.box i h
    · cases e
  · rcases each i _ q with ⟨h, e⟩ | ⟨y, v, e, h1, h2⟩
    · rw [e]; exact r.scr i h
    · cases e
theorem Rel.setD (r : Rel K BI Oe F bx σ H ρ) {i : Nat} {v : V} {x : D} (h : Dd K (hid (off Oe F) H) v x) : Rel K BI Oe F bx (σ.set i (some v)) H (ρ.set i (some (.d x))) := by
  refine r.slots (by simp [r.len]) fun j val q => ?_
  by_cases e : i = j
  · subst e
    have hi : i < ρ.length := by
      have := (List.getElem?_eq_some_iff.mp q).1
      simpa using this
    rw [List.getElem?_set_self hi] at q
    cases q
    exact .inr ⟨x, v, rfl, by rw [List.getElem?_set_self (by rw [← r.len]; exact hi)], h⟩
  · rw [List.getElem?_set_ne e] at q
    exact .inl ⟨q, List.getElem?_set_ne e⟩
theorem wipeR_length (ρ : En) : ∀ vs : List Nat, (wipeR ρ vs).length = ρ.length
  | [] => rfl
  | v :: vs => by unfold wipeR; rw [List.length_set, wipeR_length ρ vs]
theorem wipeR_some {j : Nat} {val : Vl} : ∀ {vs : List Nat}, (wipeR ρ vs)[j]? = some (some val) → ρ[j]? = some (some val) ∧ j ∉ vs
  | [], h => ⟨h, by simp⟩
  | v :: vs, h => by
    unfold wipeR at h
    by_cases hi : v = j
    · subst hi
      by_cases hv : v < (wipeR ρ vs).length
      · rw [List.getElem?_set_self hv] at h; cases h
      · rw [List.getElem?_eq_none (by simpa using hv)] at h; cases h
    · rw [List.getElem?_set_ne hi] at h
      obtain ⟨h1, h2⟩ := wipeR_some h
      exact ⟨h1, by simp only [List.mem_cons, not_or]; exact ⟨fun e => hi e.symm, h2⟩⟩
theorem wipe_out {j : Nat} : ∀ {vs : List Nat}, j ∉ vs → (wipe σ vs)[j]? = σ[j]?
  | [], _ => rfl
  | v :: vs, h => by
    unfold wipe
    rw [List.getElem?_set_ne (fun e => h (by rw [e]; exact List.mem_cons_self))]
    exact wipe_out fun z => h (List.mem_cons_of_mem _ z)
theorem Rel.wiped (r : Rel K BI Oe F bx σ H ρ) (vs : List Nat) : Rel K BI Oe F bx (wipe σ vs) H (wipeR ρ vs) :=
  r.slots (by rw [wipeR_length, wipe_length, r.len]) fun j val q => by
    obtain ⟨h1, h2⟩ := wipeR_some q
    exact .inl ⟨h1, wipe_out h2⟩
theorem back_len (ρ ρ' : En) : ∀ vs : List Nat, (back ρ ρ' vs).length = ρ'.length
  | [] => rfl
  | v :: vs => by unfold back; rw [List.length_set, back_len ρ ρ' vs]
theorem back_some {j : Nat} {val : Vl} : ∀ {vs : List Nat}, (back ρ ρ' vs)[j]? = some (some val) → (j ∉ vs ∧ ρ'[j]? = some (some val)) ∨ (j ∈ vs ∧ ∃ x, val = .d x ∧ ρ[j]? = some (some (.d x)))
  | [], h => .inl ⟨by simp, h⟩
  | v :: vs, h => by
    unfold back at h
    by_cases hi : v = j
    · subst hi
      by_cases hv : v < (back ρ ρ' vs).length
      · rw [List.getElem?_set_self hv] at h
        refine .inr ⟨List.mem_cons_self, ?_⟩
        cases q : ρ[v]? with
        | none => rw [q] at h; cases h
        | some o =>
          rw [q] at h
          cases o with
          | none => cases h
          | some y =>
            cases y with
            | d x => cases h; exact ⟨x, rfl, rfl⟩
            | own x => cases h
            | box => cases h
            | scr => cases h
      · rw [List.getElem?_eq_none (by simpa using hv)] at h; cases h
    · rw [List.getElem?_set_ne hi] at h
      rcases back_some h with ⟨h1, h2⟩ | ⟨h1, h2⟩
      · exact .inl ⟨by simp only [List.mem_cons, not_or]; exact ⟨fun e => hi e.symm, h1⟩, h2⟩
      · exact .inr ⟨List.mem_cons_of_mem _ h1, h2⟩
end

/-! ### tests -/
section
variable {X : Cx} {BI : BoxI} {C : Ctx} {a b c : Expr} {a' b' c' : Ex} {pos : Pos}
def rdTG (K : PySem.W.Frag) (BI : BoxI) (sem : En → (RV → En → Prop) → Prop) : TT := fun σ H Q => ∃ (Oe F : ASet) (bx : Bx) (ρ : En) (kd : Bool → En → Prop), Rel K BI Oe F bx σ H ρ ∧ sem ρ (fun rv ρ' => bor ρ' rv fun d => truthD d fun b => kd b ρ') ∧
  ∀ b ρ' H', Ext F H H' → Rel K BI Oe F bx σ H' ρ' → kd b ρ' → Q b H'
theorem truth_if (d : D) (A : Prop) (k : Bool → Prop) : (truthD d fun c => if c = true then A else truthD d k) = truthD d fun c => if c = true then A else k false := by
  cases d with
  | none => rfl
  | bool b => cases b <;> rfl
  | int n =>
    show (if (n != 0) = true then A else k (n != 0)) = if (n != 0) = true then A else k false
    cases n != 0 <;> rfl
  | str s =>
    show (s.length ≤ sizeLine ∧ if ((s.length : Int) != 0) = true then A else s.length ≤ sizeLine ∧ k ((s.length : Int) != 0)) = (s.length ≤ sizeLine ∧ if ((s.length : Int) != 0) = true then A else k false)
    cases (s.length : Int) != 0
    · simp
    · rfl
  | list xs =>
    show (if (!xs.isEmpty) = true then A else k (!xs.isEmpty)) = if (!xs.isEmpty) = true then A else k false
    cases !xs.isEmpty <;> rfl
  | tuple xs =>
    show (if (!xs.isEmpty) = true then A else k (!xs.isEmpty)) = if (!xs.isEmpty) = true then A else k false
    cases !xs.isEmpty <;> rfl
  | dict _ => rfl
theorem truth_if' (d : D) (A : Prop) (k : Bool → Prop) : (truthD d fun c => if c = true then truthD d k else A) = truthD d fun c => if c = true then k true else A := by
  cases d with
  | none => rfl
  | bool b => cases b <;> rfl
  | int n =>
    show (if (n != 0) = true then k (n != 0) else A) = if (n != 0) = true then k true else A
    cases n != 0 <;> rfl
  | str s =>
    show (s.length ≤ sizeLine ∧ if ((s.length : Int) != 0) = true then s.length ≤ sizeLine ∧ k ((s.length : Int) != 0) else A) = (s.length ≤ sizeLine ∧ if ((s.length : Int) != 0) = true then k true else A)
    cases (s.length : Int) != 0
    · rfl
    · simp
  | list xs =>
    show (if (!xs.isEmpty) = true then k (!xs.isEmpty) else A) = if (!xs.isEmpty) = true then k true else A
    cases !xs.isEmpty <;> rfl
  | tuple xs =>
    show (if (!xs.isEmpty) = true then k (!xs.isEmpty) else A) = if (!xs.isEmpty) = true then k true else A
    cases !xs.isEmpty <;> rfl
  | dict _ => rfl
theorem bor_if (ρ : En) (x : RV) (A : Prop) (k : Bool → Prop) : (bor ρ x fun dx => truthD dx fun c => if c = true then A else bor ρ x fun d => truthD d k) = bor ρ x fun dx => truthD dx fun c => if c = true then A else k false := by
  cases x with
  | d y => exact truth_if y A k
  | box => rfl
  | o i =>
    simp only [bor]
    split
    · exact truth_if _ A k
    · rfl
theorem bor_if' (ρ : En) (x : RV) (A : Prop) (k : Bool → Prop) : (bor ρ x fun dx => truthD dx fun c => if c = true then bor ρ x fun d => truthD d k else A) = bor ρ x fun dx => truthD dx fun c => if c = true then k true else A := by
  cases x with
  | d y => exact truth_if' y A k
  | box => rfl
  | o i =>
    simp only [bor]
    split
    · exact truth_if' _ A k
    · rfl
theorem s_tand1 (ha : PT X a (rdT X.K BI C a')) : PW X (.BoolOp .And [a] pos) (rdTG X.K BI (evAnd C (.cons a' .nil))) := pw_imp (pw_and1 ha) fun _ _ _ h => h
theorem s_tor1 (ha : PT X a (rdT X.K BI C a')) : PW X (.BoolOp .Or [a] pos) (rdTG X.K BI (evOr C (.cons a' .nil))) := pw_imp (pw_or1 ha) fun _ _ _ h => h
theorem s_tand2 {rest : List Expr} {e2 : Ex} {es : Es} (ha : PT X a (rdT X.K BI C a')) (hb : PW X (.BoolOp .And (b :: rest) pos) (rdTG X.K BI (evAnd C (.cons e2 es)))) :
    PW X (.BoolOp .And (a :: b :: rest) pos) (rdTG X.K BI (evAnd C (.cons a' (.cons e2 es)))) :=
  pw_imp (pw_and ha hb) fun σ H Q ⟨Oe, F, bx, ρ, kd, r, e, post⟩ => by
    have e2 : ev C a' ρ fun x ρ1 => bor ρ1 x fun dx => truthD dx fun c => if c = true then evAnd C (.cons e2 es) ρ1 (fun rv ρ' => bor ρ' rv fun d => truthD d fun b => kd b ρ') else kd false ρ1 := by
      have q : (fun x ρ1 => bor ρ1 x fun dx => truthD dx fun c => if c = true then evAnd C (.cons e2 es) ρ1 (fun rv ρ' => bor ρ' rv fun d => truthD d fun b => kd b ρ') else bor ρ1 x fun d => truthD d fun b => kd b ρ1) =
          fun x ρ1 => bor ρ1 x fun dx => truthD dx fun c => if c = true then evAnd C (.cons e2 es) ρ1 (fun rv ρ' => bor ρ' rv fun d => truthD d fun b => kd b ρ') else kd false ρ1 := by
        funext x ρ1; exact bor_if ρ1 x _ _
      rw [← q]; exact e
    refine ⟨Oe, F, bx, ρ, fun t ρ1 => if t = true then evAnd C (.cons _ es) ρ1 (fun rv ρ' => bor ρ' rv fun d => truthD d fun b => kd b ρ') else kd false ρ1, r, e2, fun t ρ1 H1 x1 r1 e => ?_⟩
    cases t with
    | true => exact ⟨Oe, F, bx, ρ1, kd, r1, e, fun b ρ2 H2 x2 r2 e => post b ρ2 H2 (x1.trans x2) r2 e⟩
    | false => exact post false ρ1 H1 x1 r1 e
theorem s_tor2 {rest : List Expr} {e2 : Ex} {es : Es} (ha : PT X a (rdT X.K BI C a')) (hb : PW X (.BoolOp .Or (b :: rest) pos) (rdTG X.K BI (evOr C (.cons e2 es)))) :
    PW X (.BoolOp .Or (a :: b :: rest) pos) (rdTG X.K BI (evOr C (.cons a' (.cons e2 es)))) :=
  pw_imp (pw_or ha hb) fun σ H Q ⟨Oe, F, bx, ρ, kd, r, e, post⟩ => by
    have e2 : ev C a' ρ fun x ρ1 => bor ρ1 x fun dx => truthD dx fun c => if c = true then kd true ρ1 else evOr C (.cons e2 es) ρ1 (fun rv ρ' => bor ρ' rv fun d => truthD d fun b => kd b ρ') := by
      have q : (fun x ρ1 => bor ρ1 x fun dx => truthD dx fun c => if c = true then bor ρ1 x fun d => truthD d fun b => kd b ρ1 else evOr C (.cons e2 es) ρ1 (fun rv ρ' => bor ρ' rv fun d => truthD d fun b => kd b ρ')) =
          fun x ρ1 => bor ρ1 x fun dx => truthD dx fun c => if c = true then kd true ρ1 else evOr C (.cons e2 es) ρ1 (fun rv ρ' => bor ρ' rv fun d => truthD d fun b => kd b ρ') := by
        funext x ρ1; exact bor_if' ρ1 x _ _
      rw [← q]; exact e
    refine ⟨Oe, F, bx, ρ, fun t ρ1 => if t = true then kd true ρ1 else evOr C (.cons _ es) ρ1 (fun rv ρ' => bor ρ' rv fun d => truthD d fun b => kd b ρ'), r, e2, fun t ρ1 H1 x1 r1 e => ?_⟩
    cases t with
    | false => exact ⟨Oe, F, bx, ρ1, kd, r1, e, fun b ρ2 H2 x2 r2 e => post b ρ2 H2 (x1.trans x2) r2 e⟩
    | true => exact post true ρ1 H1 x1 r1 e
theorem s_tnot (ha : PT X a (rdT X.K BI C a')) : PT X (.UnaryOp .Not a pos) (rdT X.K BI C (.not a')) :=
  pt_imp (pt_not ha) fun σ H Q ⟨Oe, F, bx, ρ, kd, r, e, post⟩ => ⟨Oe, F, bx, ρ, fun b ρ1 => kd (!b) ρ1, r, e, fun b ρ1 H1 x1 r1 e => post (!b) ρ1 H1 x1 r1 e⟩
theorem s_tcmp {op : CmpOp} (hu : X.A.units + 128 < cLine) (ha : PE X a (rdE X.K BI C a')) (hb : PE X b (rdE X.K BI C b')) (hm : behindInMarks op b = false) : PT X (.Compare a [op] [b] pos) (rdT X.K BI C (.cmp op a' b')) :=
  pt_imp (pt_cmpR (op_cmp hu op) ha hb hm) fun σ H Q ⟨Oe, F, bx, ρ, kd, r, e, post⟩ => by
    refine ⟨Oe, F, bx, ρ, _, r, e, fun x ρ1 v H1 e1 r1 o1 _ e => ?_⟩
    refine ⟨Oe, F, bx, ρ1, _, r1, e, fun y ρ2 u H2 e2 r2 o2 _ e => ?_⟩
    obtain ⟨dx, hx, e⟩ := bor_dc r2 (rv_ext o1 e2) e
    obtain ⟨dy, hy, e⟩ := bor_dc r2 o2 e
    exact ⟨_, dx, dy, _, hid_sub, hx, hy, e, fun z k => ⟨z, rfl, post z ρ2 _ (e1.trans e2) r2 k⟩⟩
theorem s_tchn {op op' : CmpOp} (hu : X.A.units + 128 < cLine) (ha : PE X a (rdE X.K BI C a')) (hb : PE X b (rdE X.K BI C b')) (hc : PE X c (rdE X.K BI C c')) (hm : lastMarks [op, op'] [b, c] = false) :
    PT X (.Compare a [op, op'] [b, c] pos) (rdT X.K BI C (.chn op op' a' b' c')) :=
  pt_imp (pt_chain (op_cmp hu op) (op_cmp hu op') ha hb hc hm) fun σ H Q ⟨Oe, F, bx, ρ, kd, r, e, post⟩ => by
    refine ⟨Oe, F, bx, ρ, _, r, e, fun x ρ1 v H1 e1 r1 o1 _ e => ?_⟩
    refine ⟨Oe, F, bx, ρ1, _, r1, e, fun y ρ2 u H2 e2 r2 o2 _ e => ?_⟩
    obtain ⟨dx, hx, e⟩ := bor_dc r2 (rv_ext o1 e2) e
    obtain ⟨dy, hy, e⟩ := bor_dc r2 o2 e
    refine ⟨_, dx, dy, _, hid_sub, hx, hy, e, fun z e => ⟨z, rfl, ?_⟩⟩
    cases z with
    | false => exact ⟨false, rfl, post false ρ2 _ (e1.trans e2) r2 e⟩
    | true =>
      refine ⟨Oe, F, bx, ρ2, _, r2, e, fun w ρ3 u3 H3 e3 r3 o3 _ e => ?_⟩
      obtain ⟨dy, hy, e⟩ := bor_dc r3 (rv_ext o2 e3) e
      obtain ⟨dw, hw, e⟩ := bor_dc r3 o3 e
      exact ⟨_, dy, dw, _, hid_sub, hy, hw, e, fun z k => ⟨z, rfl, post z ρ3 _ ((e1.trans e2).trans e3) r3 k⟩⟩
theorem s_isi {t : Ty} {es : List Expr} (h : ∀ {tt : TA}, PA X [a, b] tt → PE X c (tCB (fun vs H Q => ∃ Hh x d, vs = [x, .ty (tyN t)] ∧ Sub Hh H ∧ Dc X.K Hh H x d ∧ Q (.bl (isiD d t)) H) tt)) (ha : PE X a (rdE X.K BI C a')) (hb : PE X b (tC (.ty (tyN t))))
    (hs : starEach [a, b] X.env = (false, eval a X.env) :: starEach [b] X.env) (hs2 : starEach [b] X.env = [(false, eval b X.env)]) : PE X c (rdE X.K BI C (.isi a' t)) :=
  pe_imp (h (pa_cons ha (pa_cons hb pa_nil hs2) hs)) fun σ H Q ⟨Oe, F, bx, ρ, kd, r, e, post⟩ => by
    refine ⟨Oe, F, bx, ρ, _, r, e, fun x ρ1 v H1 e1 r1 o1 _ e => ?_⟩
    obtain ⟨dx, hx, e⟩ := bor_dc r1 o1 e
    exact ⟨_, v, dx, rfl, hid_sub, hx, post (.d (.bool (isiD dx t))) ρ1 _ H1 e1 r1 (.bl _) (nofr rfl) e⟩
end
end DD

/-! DD7: targets, what is walked, comprehensions, calls. -/
namespace DD
open PySem PySem.Spec PyProof.Rows L2 PySem.W

/-! ### targets -/
def tgS : Tg → List Nat
  | .nm i => [i]
  | .tp is => is
def rdTg (K : PySem.W.Frag) (BI : BoxI) (tg : Tg) : TG := fun v σ H Q => ∃ (Oe F : ASet) (bx : Bx) (ρ : En) (x : D) (kd : En → Prop), Rel K BI Oe F bx σ H ρ ∧ Dd K (hid (off Oe F) H) v x ∧ tgt tg x ρ kd ∧
  ∀ ρ' σ', Rel K BI Oe F bx σ' H ρ' → (∀ vs : List Nat, (∀ i ∈ tgS tg, i ∈ vs) → wipe σ' vs = wipe σ vs) → kd ρ' → Q σ' H
def rdTgs (K : PySem.W.Frag) (BI : BoxI) (is : List Nat) : TGs := fun ws σ H Q => ∃ (Oe F : ASet) (bx : Bx) (ρ ρ1 : En) (xs : List D), Rel K BI Oe F bx σ H ρ ∧ DdAll K (hid (off Oe F) H) ws xs ∧ setAll is xs ρ = some ρ1 ∧
  ∀ σ', Rel K BI Oe F bx σ' H ρ1 → (∀ vs : List Nat, (∀ i ∈ is, i ∈ vs) → wipe σ' vs = wipe σ vs) → Q σ' H
theorem set_set_none {α : Type} {l : List (Option α)} {i : Nat} {x : Option α} : (l.set i x).set i none = l.set i none := by rw [List.set_set]
theorem wipe_set {σ : L2.St} {i : Nat} {x : Option V} : ∀ {vs : List Nat}, i ∈ vs → wipe (σ.set i x) vs = wipe σ vs
  | v :: vs, h => by
    unfold wipe
    by_cases e : i ∈ vs
    · rw [wipe_set e]
    · have ei : i = v := by
        rcases List.mem_cons.mp h with z | z
        · exact z
        · exact absurd z e
      subst ei
      have q : ∀ {ws : List Nat}, i ∉ ws → wipe (σ.set i x) ws = (wipe σ ws).set i x := by
        intro ws
        induction ws with
        | nil => intro _; rfl
        | cons u us ih =>
          intro hn
          unfold wipe
          rw [ih (fun z => hn (List.mem_cons_of_mem _ z))]
          exact List.set_comm _ _ (fun z => hn (by rw [z]; exact List.mem_cons_self))
      rw [q e, List.set_set]
structure NmOk (X : Cx) (i : Nat) (e : Expr) : Prop where
  ex : ∃ x pos, e = .Name x pos ∧ X.N[i]? = some x ∧ Loc X.env.scope x ∧ (X.fn x = true ∨ X.env.scope.names.lookup x = some .local)
section
variable {X : Cx} {BI : BoxI} {C : Ctx} {pos : Pos}
theorem s_nm {i : Nat} {e : Expr} (hN : X.N.Nodup) (h : NmOk X i e) : PG X e (rdTg X.K BI (.nm i)) := by
  obtain ⟨x, pos, rfl, h1, h2, h3⟩ := h.ex
  refine ⟨fun pins s σ H v u Q I r h => ?_⟩
  obtain ⟨Oe, F, bx, ρ, d, kd, rr, hd, e, post⟩ := h
  exact (pg_name hN h1 h2 h3).run pins s σ H v u Q I r (post _ _ (rr.setD hd) (fun vs hv => wipe_set (hv i (by simp [tgS]))) e)
theorem s_nms (hN : X.N.Nodup) : ∀ {is : List Nat} {es : List Expr}, Paired (NmOk X) is es → PGs X es (rdTgs X.K BI is)
  | [], [], .nil => ⟨fun pins s σ H vs us Q I r h => by
    obtain ⟨Oe, F, bx, ρ, ρ1, xs, rr, hd, e, post⟩ := h
    cases xs with
    | nil => cases hd; cases e; exact pgs_nil.run pins s σ H [] us Q I r ⟨rfl, post σ rr fun _ _ => rfl⟩
    | cons _ _ => cases e⟩
  | i :: is, e :: es, .cons h1 h2 => by
    obtain ⟨x, pos, rfl, n1, n2, n3⟩ := h1.ex
    refine ⟨fun pins s σ H vs us Q I r h => ?_⟩
    obtain ⟨Oe, F, bx, ρ, ρ1, xs, rr, hd, e, post⟩ := h
    cases xs with
    | nil => cases e
    | cons d ds =>
      cases hd with | cons d1 d2 =>
      refine (pgs_cons (pg_name hN n1 n2 n3) (s_nms hN h2)).run pins s σ H _ us Q I r ⟨_, _, rfl, ?_⟩
      refine ⟨Oe, F, bx, _, ρ1, ds, rr.setD d1, d2, e, fun σ' r' w => post σ' r' fun vs hv => ?_⟩
      rw [w vs (fun j hj => hv j (List.mem_cons_of_mem _ hj)), wipe_set (hv i List.mem_cons_self)]
theorem names_len {X : Cx} : ∀ {is : List Nat} {es : List Expr}, Paired (NmOk X) is es → (assignEach es X.env).length = is.length ∧ (assignEach es X.env).findIdx? (·.1) = none
  | [], [], .nil => ⟨rfl, rfl⟩
  | i :: is, e :: es, .cons h1 h2 => by
    obtain ⟨x, pos, rfl, _⟩ := h1.ex
    obtain ⟨a, b⟩ := names_len h2
    have e : assignEach (Expr.Name x pos :: es) X.env = (false, assign (.Name x pos) X.env) :: assignEach es X.env := rfl
    rw [e]
    refine ⟨by rw [List.length_cons, a]; rfl, ?_⟩
    rw [List.findIdx?_cons]
    simp [b]
theorem setAll_len : ∀ {is : List Nat} {xs : List D} {ρ ρ1 : En}, setAll is xs ρ = some ρ1 → xs.length = is.length
  | [], [], _, _, _ => rfl
  | i :: is, x :: xs, ρ, ρ1, h => by rw [List.length_cons, List.length_cons, setAll_len (is := is) (xs := xs) h]
  | [], _ :: _, _, _, h => by cases h
  | _ :: _, [], _, _, h => by cases h
theorem s_tp {is : List Nat} {es : List Expr} {k : Nat} (hN : X.N.Nodup) (hc : X.calm = true) (h : Paired (NmOk X) is es) : PG X (.Tuple es k pos) (rdTg X.K BI (.tp is)) := by
  refine ⟨fun pins s σ H v u Q I r h2 => ?_⟩
  obtain ⟨Oe, F, bx, ρ, d, kd, rr, hd, e, post⟩ := h2
  cases hd with
  | tup hs ha =>
    obtain ⟨ρ1, e, kk⟩ := e
    obtain ⟨a, b⟩ := names_len h
    refine (pg_tup (n := is.length) hc (s_nms (BI := BI) hN h) a b).run pins s σ H _ u Q I r ⟨_, _, rfl, sqt_sub hid_sub hs, by rw [dpa_len ha, setAll_len e], ?_⟩
    exact ⟨Oe, F, bx, ρ, ρ1, _, rr, ha, e, fun σ' r' w => post ρ1 σ' r' w kk⟩
  | _ => exact e.elim
end

/-! ### what is walked -/
/-- J yields the data xs, while all but F stands as in H1 -/
structure WD (K : PySem.W.Frag) (Oe F : ASet) (H1 : Hp) (J : L2.It) (xs : List D) : Prop where
  go : ∀ i H, i < xs.length → Ext (off Oe F) H1 H → J.go i H
  stop : ∀ H, Ext (off Oe F) H1 H → J.stop xs.length H
  yld : ∀ i H x H' (O' : ASet), i < xs.length → Ext (off Oe F) H1 H → (∀ b, O' b → H b ≠ none) → (∀ b, O' b → off Oe F b ∨ H1 b = none) → J.yld i H x H' → Sub H H' ∧ ∃ d, xs[i]? = some d ∧ Dd K (hid O' H') x d
theorem sub_O {Oe F O' : ASet} {H1 H : Hp} (e : Ext F H1 H) (h : ∀ b, O' b → off Oe F b ∨ H1 b = none) : Sub (hid (off Oe F) H1) (hid O' H) := fun b o q => by
  obtain ⟨n, q⟩ := hid_some.mp q
  refine hid_some.mpr ⟨fun z => ?_, e b o q fun z => n (.inr z)⟩
  rcases h b z with z | z
  · exact n z
  · rw [q] at z; cases z
theorem sub_P {Oe F O' : ASet} {H1 H : Hp} (e : Ext (off Oe F) H1 H) (h : ∀ b, O' b → off Oe F b ∨ H1 b = none) : Sub (hid (off Oe F) H1) (hid O' H) := fun b o q => by
  obtain ⟨n, q⟩ := hid_some.mp q
  refine hid_some.mpr ⟨fun z => ?_, e b o q n⟩
  rcases h b z with z | z
  · exact n z
  · rw [q] at z; cases z
def rdI (K : PySem.W.Frag) (BI : BoxI) (C : Ctx) (it : DD.It) : TI := fun σ H R => ∃ (Oe F : ASet) (bx : Bx) (ρ : En) (kd : List D → En → Prop), Rel K BI Oe F bx σ H ρ ∧ itv C it ρ kd ∧
  ∀ J xs ρ' H', Ext F H H' → Rel K BI Oe F bx σ H' ρ' → WD K Oe F H' J xs → kd xs ρ' → R J H'
theorem pi_imp {X : Cx} {tg e : Expr} {t t' : TI} (h : PI X tg e t) (w : ∀ σ H R, t' σ H R → t σ H R) : PI X tg e t' := ⟨fun pins s σ H R I q => h.run pins s σ H R I (w σ H R q)⟩
theorem wd_list {K : PySem.W.Frag} {Oe F : ASet} {H1 : Hp} {a : Addr} {vs : List V} {xs : List D} (h : hid (off Oe F) H1 a = some (.lst vs)) (hd : DdAll K (hid (off Oe F) H1) vs xs) : WD K Oe F H1 (Itl K a) xs := by
  obtain ⟨nf, h0⟩ := hid_some.mp h
  have st : ∀ H, Ext (off Oe F) H1 H → SqL K H a vs := fun H e => SqL.of (e a _ h0 nf)
  have w := walk_list (K := K) (a := a) (xs := vs)
  have hl := dpa_len hd
  refine ⟨fun i H hi e => w.goes i H (by omega) (st H e), fun H e => ?_, fun i H x H' O' hi e _ hO y => ?_⟩
  · rw [← hl]; exact w.stops H (st H e)
  · obtain ⟨rfl, hx⟩ := w.yields i H x H' (by omega) (st H e) y
    obtain ⟨d, h1, h2⟩ := dpa_getV hd hx
    exact ⟨Sub.refl _, d, h1, dp_sub (sub_P e hO) h2⟩
theorem wd_tup {K : PySem.W.Frag} {Oe F : ASet} {H1 : Hp} {a : Addr} {vs : List V} {xs : List D} (h : SqT K (hid (off Oe F) H1) a vs) (hd : DdAll K (hid (off Oe F) H1) vs xs) : WD K Oe F H1 (Itt K a) xs := by
  have st : ∀ H, Ext (off Oe F) H1 H → SqT K H a vs := fun H e => sqt_sub (fun b o q => by
    obtain ⟨n, q⟩ := hid_some.mp q
    exact e b o q n) h
  have w := walk_tup (K := K) (a := a) (xs := vs)
  have hl := dpa_len hd
  refine ⟨fun i H hi e => w.goes i H (by omega) (st H e), fun H e => ?_, fun i H x H' O' hi e _ hO y => ?_⟩
  · rw [← hl]; exact w.stops H (st H e)
  · obtain ⟨rfl, hx⟩ := w.yields i H x H' (by omega) (st H e) y
    obtain ⟨d, h1, h2⟩ := dpa_getV hd hx
    exact ⟨Sub.refl _, d, h1, dp_sub (sub_P e hO) h2⟩
theorem wd_rng {K : PySem.W.Frag} {Oe F : ASet} {H1 : Hp} {lo hi : Int} : WD K Oe F H1 (Itr lo (hi - lo).toNat) (rngL lo hi) := by
  have w := walk_range (lo := lo) (n := (hi - lo).toNat)
  have hl : (rngL lo hi).length = (hi - lo).toNat := by unfold rngL; rw [List.length_map, List.length_range]
  refine ⟨fun i H h e => w.goes i H (by omega) trivial, fun H e => ?_, fun i H x H' O' h e _ hO y => ?_⟩
  · rw [hl]; exact w.stops H trivial
  · obtain ⟨rfl, rfl⟩ := w.yields i H x H' (by omega) trivial y
    refine ⟨Sub.refl _, _, ?_, .int _⟩
    unfold rngL
    rw [List.getElem?_map, List.getElem?_range (by omega)]
    rfl
theorem wd_str {K : PySem.W.Frag} {Oe F : ASet} {H1 : Hp} {z : Str} : WD K Oe F H1 (Its z) (z.cps.toList.map fun c => .str ⟨#[c]⟩) := by
  have w := walk_str (z := z)
  have hl : (z.cps.toList.map fun c => (PyData.str ⟨#[c]⟩ : D)).length = z.cps.size := by rw [List.length_map, Array.length_toList]
  refine ⟨fun i H h e => w.goes i H (by omega) trivial, fun H e => ?_, fun i H x H' O' h e _ hO y => ?_⟩
  · rw [hl]; exact w.stops H trivial
  · obtain ⟨rfl, c, hc, rfl⟩ := w.yields i H x H' (by omega) trivial y
    refine ⟨Sub.refl _, _, ?_, .str _⟩
    rw [List.getElem?_map, Array.getElem?_toList, hc]
    rfl
/-- a union of two walks by what the value is -/
def iAlt (K : PySem.W.Frag) (tl : TE) : TI := fun σ H R => tl σ H fun x H1 => (∃ a, x = .ref a ∧ (∃ xs, SqL K H1 a xs) ∧ R (Itl K a) H1) ∨ (∃ a, x = .ref a ∧ (∃ xs, SqT K H1 a xs) ∧ R (Itt K a) H1) ∨ (∃ z, x = .str z ∧ R (Its z) H1)
theorem pi_alt {X : Cx} {tg l : Expr} {tl : TE} (hl : PE X l tl) : PI X tg l (iAlt X.K tl) := by
  refine ⟨fun pins s σ H R I h => ?_⟩
  refine thn (hl.run pins s σ H _ I h) fun v s1 ⟨x, H1, I1, r1, q1⟩ => ?_
  rcases q1 with ⟨a, rfl, ⟨xs, hq⟩, q⟩ | ⟨a, rfl, ⟨xs, hq⟩, q⟩ | ⟨z, rfl, q⟩
  · cases r1
    obtain ⟨its, rv, p, hz⟩ := I1.list hq
    refine wpAny_pyIter_list p.isList ?_
    refine ⟨s1.heap.objs.size, [s1.heap.objs.size], _, _, H1, rfl, I1.kept (t' := s1.toks) fun b o e => Heap.get?_push_of_some _ e, turn_list a _, ⟨_, Heap.get?_push_size _ rfl, rfl, rfl⟩, fun b hb => ?_, q⟩
    have e : b = s1.heap.objs.size := by simpa using hb
    subst e
    exact I1.fpOk (Nat.le_refl _) (I1.hok.fresh (Nat.le_refl _))
  · cases r1
    obtain ⟨its, rv, p, hz⟩ := I1.tuple hq
    refine wpAny_pyIter_tuple (show s1.heap.IsTuple a its.toArray from p) ?_
    refine ⟨s1.heap.objs.size, [s1.heap.objs.size], _, _, H1, rfl, I1.kept (t' := s1.toks) fun b o e => Heap.get?_push_of_some _ e, turn_tuple a _, ⟨_, Heap.get?_push_size _ rfl, rfl, rfl⟩, fun b hb => ?_, q⟩
    have e : b = s1.heap.objs.size := by simpa using hb
    subst e
    exact I1.fpOk (Nat.le_refl _) (I1.hok.fresh (Nat.le_refl _))
  · obtain ⟨t, rfl⟩ := r1
    cases ha : z.cps.all (· < 128)
    · exact wpAny_pyIter_wide ha (pi_one (tk := s1.toks) I1 _ (turn_str _ z t "str_iterator" (.inr rfl)) ⟨_, Heap.get?_push_size _ rfl, rfl, rfl⟩ q)
    · exact wpAny_pyIter_ascii ha (pi_one (tk := s1.toks) I1 _ (turn_str _ z t "str_ascii_iterator" (.inl rfl)) ⟨_, Heap.get?_push_size _ rfl, rfl, rfl⟩ q)
section
variable {X : Cx} {BI : BoxI} {C : Ctx} {tg a b : Expr} {a' b' : Ex} {pos p : Pos}
theorem s_seq (ha : PE X a (rdE X.K BI C a')) : PI X tg a (rdI X.K BI C (.seq a')) :=
  pi_imp (pi_alt ha) fun σ H R ⟨Oe, F, bx, ρ, kd, r, e, post⟩ => by
    refine ⟨Oe, F, bx, ρ, _, r, e, fun x ρ1 v H1 e1 r1 o1 _ e => ?_⟩
    obtain ⟨d, rfl, hd, e⟩ := cap_dd o1 e
    cases hd with
    | lst h1 h2 => exact .inl ⟨_, rfl, ⟨_, SqL.of (hid_some.mp h1).2⟩, post _ _ ρ1 H1 e1 r1 (wd_list h1 h2) e⟩
    | tup h1 h2 => exact .inr (.inl ⟨_, rfl, ⟨_, sqt_sub hid_sub h1⟩, post _ _ ρ1 H1 e1 r1 (wd_tup h1 h2) e⟩)
    | str z => exact .inr (.inr ⟨z, rfl, post _ _ ρ1 H1 e1 r1 wd_str e⟩)
    | _ => exact e.elim
theorem s_rng1 (hg : Gl X "range") (hm : X.mg "range" = none) (ha : PE X a (rdE X.K BI C a')) (hs : starEach [a] X.env = [(false, eval a X.env)]) : PI X tg (.Call (.Name "range" p) [a] [] pos) (rdI X.K BI C (.rng1 a')) :=
  pi_imp (pi_range1 hg hm (pa_cons ha pa_nil hs) hs) fun σ H R ⟨Oe, F, bx, ρ, kd, r, e, post⟩ => by
    refine ⟨Oe, F, bx, ρ, _, r, e, fun x ρ1 v H1 e1 r1 o1 _ e => ?_⟩
    obtain ⟨d, hd, n, rfl, ⟨c1, c2⟩, e⟩ := bor_dc r1 o1 e
    cases hd
    have w : WD X.K Oe F H1 (Itr 0 (n - 0).toNat) (rngL 0 n) := wd_rng
    rw [Int.sub_zero] at w
    exact ⟨n, rfl, c1, c2, post _ _ ρ1 H1 e1 r1 w e⟩
theorem s_rng2 (hg : Gl X "range") (hm : X.mg "range" = none) (ha : PE X a (rdE X.K BI C a')) (hb : PE X b (rdE X.K BI C b')) (hs : starEach [a, b] X.env = [(false, eval a X.env), (false, eval b X.env)]) (hs2 : starEach [b] X.env = [(false, eval b X.env)]) :
    PI X tg (.Call (.Name "range" p) [a, b] [] pos) (rdI X.K BI C (.rng2 a' b')) :=
  pi_imp (pi_range2 hg hm (pa_cons ha (pa_cons hb pa_nil hs2) (by rw [hs, hs2])) hs hs2) fun σ H R ⟨Oe, F, bx, ρ, kd, r, e, post⟩ => by
    refine ⟨Oe, F, bx, ρ, _, r, e, fun x ρ1 v H1 e1 r1 o1 _ e => ?_⟩
    refine ⟨Oe, F, bx, ρ1, _, r1, e, fun y ρ2 u H2 e2 r2 o2 _ e => ?_⟩
    obtain ⟨dx, hx, e⟩ := bor_dc r2 (rv_ext o1 e2) e
    obtain ⟨dy, hy, n, m, rfl, rfl, c, e⟩ := bor_dc r2 o2 e
    cases hx; cases hy
    exact ⟨n, m, rfl, c, post _ _ ρ2 H2 (e1.trans e2) r2 wd_rng e⟩

/-! ### comprehensions -/
def rdC (K : PySem.W.Frag) (BI : BoxI) (C : Ctx) (cs : Es) : TT := fun σ H Q => ∃ (Oe F : ASet) (bx : Bx) (ρ : En) (kd : Bool → En → Prop), Rel K BI Oe F bx σ H ρ ∧ evc C cs ρ kd ∧
  ∀ b ρ' H', Ext F H H' → Rel K BI Oe F bx σ H' ρ' → kd b ρ' → Q b H'
theorem pts_imp {es : List Expr} {t t' : TT} (h : PTs X es t) (w : ∀ σ H Q, t' σ H Q → t σ H Q) : PTs X es t' := ⟨fun pins s σ H Q I q => h.run pins s σ H Q I (w σ H Q q)⟩
theorem s_c0 : PTs X [] (rdC X.K BI C .nil) := pts_imp pts_nil fun σ H Q ⟨Oe, F, bx, ρ, kd, r, e, post⟩ => post true ρ H (Ext.refl _ _) r e
theorem s_c1 (ha : PT X a (rdT X.K BI C a')) : PTs X [a] (rdC X.K BI C (.cons a' .nil)) := pts_imp (pts_one ha) fun σ H Q ⟨Oe, F, bx, ρ, kd, r, e, post⟩ => by
  have e2 : ev C a' ρ fun rv ρ' => bor ρ' rv fun d => truthD d fun b => kd b ρ' := by
    have q : (fun (v : RV) (ρ1 : En) => bor ρ1 v fun d => truthD d fun c => if c = true then evc C .nil ρ1 kd else kd false ρ1) = fun rv ρ' => bor ρ' rv fun d => truthD d fun b => kd b ρ' := by
      funext v ρ1
      congr 1
      funext d
      congr 1
      funext c
      cases c <;> rfl
    rw [← q]; exact e
  exact ⟨Oe, F, bx, ρ, kd, r, e2, post⟩
theorem Rel.less {K : PySem.W.Frag} {BI : BoxI} {Oe F : ASet} {bx : Bx} {σ : L2.St} {H : Hp} {ρ : En} {p : Addr} (r : Rel K BI (fun b => Oe b ∨ b = p) F bx σ H ρ) : Rel K BI Oe F bx σ H ρ := by
  have hh : Sub (hid (off (fun b => Oe b ∨ b = p) F) H) (hid (off Oe F) H) := hid_anti fun b z => z.elim (fun z => .inl (.inl z)) .inr
  refine ⟨r.len, fun i x q => ?_, fun i x q => ?_, r.sep, r.box, fun i q => ?_, r.bok, fun b q => r.trk b (q.elim (fun z => .inl (.inl z)) .inr), fun b q => r.dis b (.inl q)⟩
  · obtain ⟨v, h1, h2⟩ := r.dat i x q
    exact ⟨v, h1, dp_sub hh h2⟩
  · obtain ⟨a, h1, h2, h3, ds, vs, h4, h5, h6⟩ := r.own i x q
    exact ⟨a, h1, h2, h3, ds, vs, h4, h5, dpall_sub hh h6⟩
  · obtain ⟨a, ns, h1, h2, h3⟩ := r.scr i q
    exact ⟨a, ns, h1, sql_sub hh h2, h3⟩
theorem wipe_wipe {σ : L2.St} : ∀ {vs : List Nat}, wipe (wipe σ vs) vs = wipe σ vs := by
  intro vs
  apply List.ext_getElem?
  intro j
  by_cases h : j ∈ vs
  · have q : ∀ {τ : L2.St} {ws : List Nat}, j ∈ ws → j < τ.length → (wipe τ ws)[j]? = some none := by
      intro τ ws
      induction ws with
      | nil => intro z; cases z
      | cons w ws ih =>
        intro z hj
        unfold wipe
        by_cases e : w = j
        · subst e; rw [List.getElem?_set_self (by rw [wipe_length]; exact hj)]
        · rw [List.getElem?_set_ne e]
          exact ih ((List.mem_cons.mp z).resolve_left fun z => e z.symm) hj
    by_cases hj : j < σ.length
    · rw [q h (by rw [wipe_length]; exact hj), q h hj]
    · rw [List.getElem?_eq_none (by rw [wipe_length, wipe_length]; omega), List.getElem?_eq_none (by rw [wipe_length]; omega)]
  · rw [wipe_out h]
theorem wipeR_in {ρ : En} {j : Nat} {val : Vl} : ∀ {vs : List Nat}, ρ[j]? = some (some val) → j ∉ vs → (wipeR ρ vs)[j]? = some (some val)
  | [], h, _ => h
  | v :: vs, h, n => by
    unfold wipeR
    rw [List.getElem?_set_ne (fun e => n (by rw [e]; exact List.mem_cons_self))]
    exact wipeR_in h fun z => n (List.mem_cons_of_mem _ z)
/-- a change at an address that nobody looks at -/
theorem Rel.poke {K : PySem.W.Frag} {BI : BoxI} {Oe F : ASet} {bx : Bx} {σ : L2.St} {H : Hp} {ρ : En} {p : Addr} {o : HO} (r : Rel K BI Oe F bx σ H ρ) (hp : off Oe F p) (nF : ¬ F p) (nB : ∀ B C, bx = some (B, C) → p ≠ B ∧ p ≠ C) : Rel K BI Oe F bx σ (upd H p o) ρ := by
  have hh : Sub (hid (off Oe F) H) (hid (off Oe F) (upd H p o)) := fun b u q => by
    obtain ⟨n, q⟩ := hid_some.mp q
    exact hid_some.mpr ⟨n, by rw [upd_ne (fun z => n (by rw [z]; exact hp))]; exact q⟩
  refine ⟨r.len, fun i x q => ?_, fun i x q => ?_, r.sep, r.box, fun i q => ?_, fun B C q => ?_, fun b q => ?_, r.dis⟩
  · obtain ⟨v, h1, h2⟩ := r.dat i x q
    exact ⟨v, h1, dp_sub hh h2⟩
  · obtain ⟨a, h1, h2, h3, ds, vs, h4, h5, h6⟩ := r.own i x q
    exact ⟨a, h1, h2, h3, ds, vs, h4, by rw [upd_ne (fun z => nF (by rw [← z]; exact h2))]; exact h5, dpall_sub hh h6⟩
  · obtain ⟨a, ns, h1, h2, h3⟩ := r.scr i q
    exact ⟨a, ns, h1, sql_sub hh h2, h3⟩
  · obtain ⟨h1, h2, h3⟩ := r.bok B C q
    obtain ⟨n1, n2⟩ := nB B C q
    exact ⟨h1, h2, BI.loc h3 (upd_ne (Ne.symm n1)) (upd_ne (Ne.symm n2))⟩
  · by_cases e : b = p
    · rw [e, upd_same]; exact fun z => by cases z
    · rw [upd_ne e]; exact r.trk b q
theorem s_lc {elt tge iter : Expr} {ifs : List Expr} {scope : Scope} {own : List (Str × Nat)} {elt' : Ex} {tg' : Tg} {it' : DD.It} {cs' : Es} (hc : X.calm = true) (hN : X.N.Nodup) (hi : PI X tge iter (rdI X.K BI C it')) (ok : BlkOk X.N X.env.scope scope own)
    (hv : ∀ i ∈ tgS tg', i ∈ own.map (·.2))
    (hg : ∀ (s : Shared) (H : Hp) (A : Addr) (cl : List (Str × Addr)) (fp : List Addr), PG (X.blk s H scope (compEnvC scope cl A X.env) fp) tge (rdTg X.K BI tg')) (ht : ∀ (s : Shared) (H : Hp) (A : Addr) (cl : List (Str × Addr)) (fp : List Addr), PTs (X.blk s H scope (compEnvC scope cl A X.env) fp) ifs (rdC X.K BI C cs'))
    (he : ∀ (s : Shared) (H : Hp) (A : Addr) (cl : List (Str × Addr)) (fp : List Addr), PE (X.blk s H scope (compEnvC scope cl A X.env) fp) elt (rdE X.K BI C elt')) : ∀ σ H Q, rdE X.K BI C (.lc elt' (own.map (·.2)) tg' it' cs') σ H Q → tLc (rdI X.K BI C it') (rdTg X.K BI tg') (rdC X.K BI C cs') (rdE X.K BI C elt') (own.map (·.2)) σ H Q := by
  intro σ H Q ⟨Oe, F, bx, ρ, kd, r, e, post⟩
  refine ⟨Oe, F, bx, ρ, _, r, e, fun J xs ρ1 H1 e1 r1 w e DL hD => ?_⟩
  generalize hvs : own.map (·.2) = vs at *
  let fb : PyData → En → (Option PyData → En → Prop) → Prop := fun x ρ2 k2 => tgt tg' x (wipeR ρ2 vs) fun ρ3 => evc C cs' ρ3 fun b ρ4 => if b = true then ev C elt' ρ4 fun v ρ5 => cap v fun d => k2 (some d) ρ5 else k2 none ρ4
  have e : lcl fb xs ρ1 [] fun acc ρ6 => kd (.d (.list acc)) (back ρ1 ρ6 vs) := e
  have nD : ¬ F DL := (r1.fresh hD).2
  have xD : ∀ {H2 : Hp}, Ext (fun b => F b ∨ b = DL) H1 H2 → Ext F H1 H2 := fun {H2} x b o q n => x b o q fun z => z.elim n (ne_of_none q hD)
  refine ⟨fun i m H2 => m = xs.length - i ∧ i ≤ xs.length ∧ ∃ ρ2 acc vacc, Ext F H1 H2 ∧ Rel X.K BI (fun b => Oe b ∨ b = DL) F bx (wipe σ vs) H2 (wipeR ρ2 vs) ∧ ρ2.length = ρ1.length ∧ H2 DL = some (.lst vacc) ∧ DdAll X.K (hid (off (fun b => Oe b ∨ b = DL) F) H2) vacc acc ∧
    lcl fb (xs.drop i) ρ2 acc fun acc ρ6 => kd (.d (.list acc)) (back ρ1 ρ6 vs), ⟨xs.length, by simp, Nat.zero_le _, ρ1, [], [], ?_, ?_, rfl, upd_same, .nil, e⟩, ?_⟩
  · exact (Sub.new hD).ext
  · exact (r1.more hD).wiped vs
  rintro i m H2 ⟨rfl, hi, ρ2, acc, vacc, x2, r2, l2, hD2, hacc, e⟩
  by_cases hlt : i < xs.length
  · right
    have hdrop : xs.drop i = xs[i] :: xs.drop (i + 1) := List.drop_eq_getElem_cons hlt
    rw [hdrop] at e
    refine ⟨w.go i H2 hlt (x2.mono fun _ => .inr), fun H3 => ∃ ρ3 acc vacc, Ext F H1 H3 ∧ Rel X.K BI (fun b => Oe b ∨ b = DL) F bx (wipe σ vs) H3 (wipeR ρ3 vs) ∧ ρ3.length = ρ1.length ∧ H3 DL = some (.lst vacc) ∧ DdAll X.K (hid (off (fun b => Oe b ∨ b = DL) F) H3) vacc acc ∧
      lcl fb (xs.drop (i + 1)) ρ3 acc fun acc ρ6 => kd (.d (.list acc)) (back ρ1 ρ6 vs), fun H' n => ⟨xs.length - (i + 1), by omega, rfl, hlt, n⟩, fun v H3 y => ?_⟩
    have offs : ∀ b, off (fun b => Oe b ∨ b = DL) F b → off Oe F b ∨ H1 b = none := fun b z => by
      rcases z with (z | z) | z
      · exact .inl (.inl z)
      · exact .inr (by rw [z]; exact hD)
      · exact .inl (.inr z)
    obtain ⟨s3, d, hd, dv⟩ := w.yld i H2 v H3 _ hlt (x2.mono fun _ => .inr) r2.trk offs y
    have ed : xs[i] = d := by
      have q := List.getElem?_eq_getElem hlt
      rw [hd] at q; cases q; rfl
    subst ed
    have r3 := r2.sub s3
    have e : tgt tg' xs[i] (wipeR ρ2 vs) fun ρ3 => evc C cs' ρ3 fun b ρ4 => if b = true then ev C elt' ρ4 fun v ρ5 => cap v fun d => acc.length < sizeLine ∧ lcl fb (xs.drop (i + 1)) ρ5 (acc ++ [d]) fun acc ρ6 => kd (.d (.list acc)) (back ρ1 ρ6 vs)
        else lcl fb (xs.drop (i + 1)) ρ4 acc fun acc ρ6 => kd (.d (.list acc)) (back ρ1 ρ6 vs) := e
    refine ⟨_, F, bx, _, xs[i], _, r3, dv, e, fun ρ3 σ3 r4 hw e => ⟨by rw [hw vs hv, wipe_wipe], ?_⟩⟩
    have hw3 : wipe σ3 vs = wipe σ vs := by rw [hw vs hv, wipe_wipe]
    refine ⟨_, F, bx, ρ3, _, r4, e, fun b ρ4 H4 e4 r5 e => ?_⟩
    have x4 : Ext F H1 H4 := (x2.trans s3.ext).trans e4
    have D4 : H4 DL = some (.lst vacc) := e4 DL _ (s3 DL _ hD2) nD
    have a4 : DdAll X.K (hid (off (fun b => Oe b ∨ b = DL) F) H4) vacc acc := dpall_sub (off_sub ((s3.ext).trans e4)) hacc
    have len4 : ρ4.length = ρ1.length := by rw [r5.len, ← wipe_length σ3 vs, hw3, wipe_length, ← r1.len]
    cases b with
    | false => exact ⟨ρ4, acc, vacc, x4, by rw [← hw3]; exact r5.wiped vs, len4, D4, a4, e⟩
    | true =>
      refine ⟨_, F, bx, ρ4, _, r5, e, fun rv ρ5 u H5 e5 r6 o6 _ e => ?_⟩
      obtain ⟨d5, rfl, hd5, hlen, e⟩ := cap_dd o6 e
      have D5 : H5 DL = some (.lst vacc) := e5 DL _ D4 nD
      have a5 : DdAll X.K (hid (off (fun b => Oe b ∨ b = DL) F) H5) vacc acc := dpall_sub (off_sub e5) a4
      have up : Sub (hid (off (fun b => Oe b ∨ b = DL) F) H5) (hid (off (fun b => Oe b ∨ b = DL) F) (upd H5 DL (.lst (vacc ++ [u])))) := fun b o q => by
        obtain ⟨n, q⟩ := hid_some.mp q
        refine hid_some.mpr ⟨n, ?_⟩
        rw [upd_ne (fun z => n (.inl (.inr z)))]
        exact q
      have len5 : ρ5.length = ρ1.length := by rw [r6.len, ← wipe_length σ3 vs, hw3, wipe_length, ← r1.len]
      refine ⟨vacc, D5, by rw [dpa_len a5]; exact hlen, ρ5, acc ++ [d5], vacc ++ [u], fun b o q n => ?_, ?_, len5, upd_same, dpa_append (dpall_sub up a5) (.cons (dp_sub up hd5) .nil), e⟩
      · rw [upd_ne (ne_of_none q hD)]
        exact (x4.trans e5) b o q n
      · have r7 := r6.wiped vs
        rw [hw3] at r7
        exact r7.poke (.inl (.inr rfl)) nD fun B C' q => by
          obtain ⟨f1, f2, _⟩ := r1.bok B C' q
          exact ⟨fun z => nD (by rw [z]; exact f1), fun z => nD (by rw [z]; exact f2)⟩
  · left
    have ei : i = xs.length := by omega
    subst ei
    refine ⟨w.stop H2 (x2.mono fun _ => .inr), ?_⟩
    rw [List.drop_of_length_le (Nat.le_refl _)] at e
    have e : kd (.d (.list acc)) (back ρ1 ρ2 vs) := e
    have r3 : Rel X.K BI Oe F bx σ H2 (back ρ1 ρ2 vs) := by
      have r4 := r2.less
      refine r4.slots (by rw [back_len, l2, r1.len]) fun j val q => ?_
      rcases back_some q with ⟨h1, h2⟩ | ⟨h1, x, rfl, h2⟩
      · exact .inl ⟨wipeR_in h2 h1, (wipe_out h1).symm⟩
      · obtain ⟨v, h3, h4⟩ := r1.dat j x h2
        exact .inr ⟨x, v, rfl, h3, dp_sub (off_sub x2) h4⟩
    have hh : Sub (hid (off (fun b => Oe b ∨ b = DL) F) H2) (hid (off Oe F) H2) := hid_anti fun b z => z.elim (fun z => .inl (.inl z)) .inr
    refine post (.d (.list acc)) _ (.ref DL) H2 (e1.trans x2) r3 (.lst (hid_some.mpr ⟨fun z => r1.trk DL z hD, hD2⟩) (dpall_sub hh hacc)) (fun _ ds q => ?_) e
    cases q
    refine ⟨DL, vacc, rfl, none_back r1 e1 hD, hD2, hacc, r2.slots (by rw [back_len, l2, r1.len]) fun j val q => ?_⟩
    rcases back_some q with ⟨h1, h2⟩ | ⟨h1, x, rfl, h2⟩
    · exact .inl ⟨wipeR_in h2 h1, (wipe_out h1).symm⟩
    · obtain ⟨v, h3, h4⟩ := r1.dat j x h2
      refine .inr ⟨x, v, rfl, h3, dp_sub (sub_O x2 fun b z => ?_) h4⟩
      rcases z with (z | z) | z
      · exact .inl (.inl z)
      · exact .inr (by rw [z]; exact hD)
      · exact .inl (.inr z)
theorem s_lcE {elt tge iter : Expr} {ifs : List Expr} {scope : Scope} {own : List (Str × Nat)} {elt' : Ex} {tg' : Tg} {it' : DD.It} {cs' : Es} (hc : X.calm = true) (hN : X.N.Nodup) (hi : PI X tge iter (rdI X.K BI C it')) (ok : BlkOk X.N X.env.scope scope own)
    (hv : ∀ i ∈ tgS tg', i ∈ own.map (·.2))
    (hg : ∀ (s : Shared) (H : Hp) (A : Addr) (cl : List (Str × Addr)) (fp : List Addr), PG (X.blk s H scope (compEnvC scope cl A X.env) fp) tge (rdTg X.K BI tg')) (ht : ∀ (s : Shared) (H : Hp) (A : Addr) (cl : List (Str × Addr)) (fp : List Addr), PTs (X.blk s H scope (compEnvC scope cl A X.env) fp) ifs (rdC X.K BI C cs'))
    (he : ∀ (s : Shared) (H : Hp) (A : Addr) (cl : List (Str × Addr)) (fp : List Addr), PE (X.blk s H scope (compEnvC scope cl A X.env) fp) elt (rdE X.K BI C elt')) (hs : ∀ x, foldedSetIterable iter X.env x = pure x) :
    PE X (.ListComp elt [⟨tge, iter, ifs, 0⟩] scope pos) (rdE X.K BI C (.lc elt' (own.map (·.2)) tg' it' cs')) :=
  pe_imp (pe_lc hc hN hi ok hg ht he hs) (s_lc hc hN hi ok hv hg ht he)

/-! ### calls -/
def ArgOk (K : PySem.W.Frag) (O : ASet) (bx : Bx) (H : Hp) (a : Arg) (v : V) : Prop :=
  match a with
  | .d x => Dd K (hid O H) v x
  | .box => ∃ B C, bx = some (B, C) ∧ v = .ref B
/-- what a def promises: its call in the language -/
def spF (K : PySem.W.Frag) (BI : BoxI) (call : Nat → List Arg → (D → Prop) → Prop) (f ar : Nat) : Sp := fun vs H Q _ => vs.length = ar ∧ ∃ (as : List Arg) (O : ASet) (bx : Bx) (kd : D → Prop), Paired (ArgOk K O bx H) as vs ∧
  (∀ B C, bx = some (B, C) → O B ∧ O C ∧ BI.ok H B C) ∧ (∀ b, O b → H b ≠ none) ∧ call f as kd ∧
  ∀ d v H', Ext (isBx bx) H H' → (∀ B C, bx = some (B, C) → BI.ok H' B C) → Dd K (hid O H') v d → kd d → Q v H'
/-- the slots that a call's arguments are lent from -/
def lent : List RV → List Nat
  | [] => []
  | .o i :: vs => i :: lent vs
  | _ :: vs => lent vs
theorem lent_no : ∀ {vs : List RV}, vs.any isO = false → lent vs = []
  | [], _ => rfl
  | .o i :: vs, h => by simp [isO] at h
  | .d x :: vs, h => lent_no (vs := vs) (by simpa [isO] using h)
  | .box :: vs, h => lent_no (vs := vs) (by simpa [isO] using h)
/-- without the lists that are lent -/
def offL (Oe F : ASet) (σ : L2.St) (ls : List Nat) : ASet := fun b => off Oe F b ∧ ∀ i ∈ ls, σ[i]? ≠ some (some (.ref b))
theorem args_ok {Oe F : ASet} {bx : Bx} {σ : L2.St} {H : Hp} {ρ : En} {K : PySem.W.Frag} (r : Rel K BI Oe F bx σ H ρ) (ls : List Nat) : ∀ {rvs : List RV} {vs : List V} {k : List Arg → Prop}, Paired (RvOk K Oe F bx σ H) rvs vs → (∀ i ∈ lent rvs, i ∈ ls) → argAll ρ rvs k →
    ∃ as, Paired (ArgOk K (offL Oe F σ ls) bx H) as vs ∧ k as
  | [], _, k, .nil, _, h => ⟨[], .nil, h⟩
  | .box :: rvs, _, k, .cons o t, hl, h => by
    obtain ⟨as, h1, h2⟩ := args_ok r ls t hl h
    exact ⟨.box :: as, .cons o h1, h2⟩
  | .d x :: rvs, _, k, .cons o t, hl, h => by
    obtain ⟨as, h1, h2⟩ := args_ok r ls t hl h
    exact ⟨.d x :: as, .cons (dp_sub (hid_anti fun b z => z.1) o) h1, h2⟩
  | .o i :: rvs, v :: _, k, .cons o t, hl, h => by
    have h : bor ρ (.o i) fun d => argAll ρ rvs fun as => k (.d d :: as) := h
    simp only [bor] at h
    split at h
    · rename_i x q
      obtain ⟨as, h1, h2⟩ := args_ok r ls t (fun j hj => hl j (List.mem_cons_of_mem _ hj)) h
      obtain ⟨a, e1, e2, e3, ds, ws, rfl, e5, e6⟩ := r.own _ _ q
      have o : σ[i]? = some (some v) := o
      rw [e1] at o; cases o
      refine ⟨.d (.list ds) :: as, .cons (.lst (hid_some.mpr ⟨fun z => z.2 i (hl i List.mem_cons_self) e1, e5⟩) (dpall_sub (hid_anti fun b z => z.1) e6)) h1, h2⟩
    · exact h.elim
theorem flat_dd {K : PySem.W.Frag} {H H' : Hp} {v : V} {d : D} (hf : flat d = true) (h : Dd K H v d) : Dd K H' v d := by
  cases h with
  | non => exact .non
  | bl b => exact .bl b
  | int i => exact .int i
  | str x => exact .str x
  | lst _ _ => cases hf
  | tup _ _ => cases hf
/-- behind a call -/
theorem Rel.call {K : PySem.W.Frag} {Oe F : ASet} {bx : Bx} {σ : L2.St} {H H' : Hp} {ρ : En} (r : Rel K BI Oe F bx σ H ρ) (e : Ext (isBx bx) H H') (hb : ∀ B C, bx = some (B, C) → BI.ok H' B C) : Rel K BI Oe F bx σ H' ρ := by
  have bF : ∀ b, isBx bx b → F b := fun b ⟨B, C, q, z⟩ => by
    obtain ⟨h1, h2, _⟩ := r.bok B C q
    rcases z with rfl | rfl
    · exact h1
    · exact h2
  have eF : Ext F H H' := e.mono bF
  have hh := off_sub (Oe := Oe) eF
  refine ⟨r.len, fun i x q => ?_, fun i x q => ?_, r.sep, r.box, fun i q => ?_, fun B C q => ?_, fun b q => ?_, r.dis⟩
  · obtain ⟨v, h1, h2⟩ := r.dat i x q
    exact ⟨v, h1, dp_sub hh h2⟩
  · obtain ⟨a, h1, h2, h3, ds, vs, h4, h5, h6⟩ := r.own i x q
    exact ⟨a, h1, h2, h3, ds, vs, h4, e a _ h5 h3, dpall_sub hh h6⟩
  · obtain ⟨a, ns, h1, h2, h3⟩ := r.scr i q
    exact ⟨a, ns, h1, sql_sub hh h2, h3⟩
  · obtain ⟨h1, h2, _⟩ := r.bok B C q
    exact ⟨h1, h2, hb B C q⟩
  · by_cases z : isBx bx b
    · obtain ⟨B, C, q, z⟩ := z
      have t := BI.trk (hb B C q)
      rcases z with rfl | rfl
      · exact t.1
      · exact t.2
    · cases hq : H b with
      | none => exact absurd hq (r.trk b q)
      | some o => rw [e b o hq z]; exact fun z => by cases z
theorem s_call {f : Nat} {es : List Expr} {es' : Es} {fa : Addr} {fd : FuncData} {ps : List Str} {k ar : Nat} {x : Str} {e : Expr} {p : Pos} (F : FnOk X.prog X.w X.K X.mg X.base CX0 k fa fd ps (spF X.K BI C.call f ar)) (hr : Room k X.A) (hg : Gl X x) (hm : X.mg x = some (.ref fa)) (hk : PySem.W.keepIn X.K (.ref fa) = true)
    (hb : Binds X.K fd ps []) (hp : PA X (e :: es) (rdA X.K BI C es')) (har : esLen es' = ar) (hdb : (x == ("__debug__" : Str)) = false) (he : starEach (e :: es) X.env = (false, eval e X.env) :: starEach es X.env) (hpl : (backTo pos (starEach es X.env)).any (·.1) = false) :
    PE X (.Call (.Name x p) (e :: es) [] pos) (rdE X.K BI C (.call f es')) :=
  pe_imp (pe_call (E := E0) F hr hg hm hk hb .nil pass0 hp hdb he hpl) fun σ H Q ⟨Oe, F, bx, ρ, kd, r, e, post⟩ => by
    refine ⟨Oe, F, bx, ρ, _, r, e, fun rvs ρ1 vs H1 e1 r1 o1 l1 e => ?_⟩
    obtain ⟨as, ha, hc⟩ := args_ok r1 (lent rvs) o1 (fun _ h => h) e
    rw [List.append_nil]
    refine ⟨by rw [l1, har], as, offL Oe F σ (lent rvs), bx, _, ha, fun B C' q => ?_, fun b z => r1.trk b z.1, hc, fun d v H2 x2 b2 hd ⟨hfl, hk⟩ => ?_⟩
    · obtain ⟨h1, h2, h3⟩ := r1.bok B C' q
      have nb : ∀ b, isBx bx b → ∀ i ∈ lent rvs, σ[i]? ≠ some (some (.ref b)) := fun b hb i hi z => by
        have own : ∀ {rvs : List RV} {vs : List V} {k : List Arg → Prop}, argAll ρ1 rvs k → i ∈ lent rvs → ∃ y, ρ1[i]? = some (some (.own y)) := by
          intro rvs
          induction rvs with
          | nil => intro _ _ _ h; cases h
          | cons rv rvs ih =>
            intro vs k h hi
            cases rv with
            | d x => exact ih (vs := vs) h hi
            | box => exact ih (vs := vs) h hi
            | o j =>
              have h : bor ρ1 (.o j) fun d => argAll ρ1 rvs fun as => k (.d d :: as) := h
              simp only [bor] at h
              split at h
              · rename_i y q
                rcases List.mem_cons.mp hi with rfl | hi
                · exact ⟨y, q⟩
                · exact ih (vs := vs) h hi
              · exact h.elim
        obtain ⟨y, q2⟩ := own (vs := vs) e hi
        obtain ⟨a, g1, g2, g3, _⟩ := r1.own _ _ q2
        rw [g1] at z; cases z
        exact g3 hb
      exact ⟨⟨.inr h1, nb B ⟨B, C', q, .inl rfl⟩⟩, ⟨.inr h2, nb C' ⟨B, C', q, .inr rfl⟩⟩, h3⟩
    · have bF : ∀ b, isBx bx b → F b := fun b ⟨B, C', q, z⟩ => by
        obtain ⟨h1, h2, _⟩ := r1.bok B C' q
        rcases z with rfl | rfl
        · exact h1
        · exact h2
      have r2 := r1.call x2 b2
      refine post (.d d) ρ1 v H2 (e1.trans (x2.mono bF)) r2 ?_ (nofr rfl) hk
      rcases hfl with hfl | hfl
      · have hz := lent_no hfl
        refine dp_sub (hid_anti fun b z => ⟨z, fun i hi => ?_⟩) hd
        rw [hz] at hi; cases hi
      · exact flat_dd hfl hd
end
end DD

/-! DD8: statements. -/
namespace DD
open PySem PySem.Spec PyProof.Rows L2 PySem.W

structure Step (F F' : ASet) (H H' : Hp) : Prop where
  ext : Ext F H H'
  new : ∀ b, F' b → F b ∨ H b = none
theorem Step.refl (F : ASet) (H : Hp) : Step F F H H := ⟨Ext.refl _ _, fun _ => .inl⟩
theorem Ext.step {F : ASet} {H H' : Hp} (e : Ext F H H') : Step F F H H' := ⟨e, fun _ => .inl⟩
theorem Step.trans {F F1 F2 : ASet} {H H1 H2 : Hp} (a : Step F F1 H H1) (b : Step F1 F2 H1 H2) : Step F F2 H H2 where
  ext := fun x o q n => b.ext x o (a.ext x o q n) fun z => (a.new x z).elim n fun z => by rw [q] at z; cases z
  new := fun x z => (b.new x z).elim (a.new x) fun z => by
    cases q : H x with
    | none => exact .inr rfl
    | some o =>
      by_cases f : F x
      · exact .inl f
      · rw [a.ext x o q f] at z; cases z
theorem Step.then {F F1 : ASet} {H H1 H2 : Hp} (a : Step F F1 H H1) (b : Ext F1 H1 H2) : Step F F1 H H2 := a.trans b.step
section
variable (K : PySem.W.Frag) (BI : BoxI)
structure Wants (Oe F : ASet) (bx : Bx) (H : Hp) (E : DD.Ends) (Dn : L2.Ends) : Prop where
  nx : ∀ F' σ' H' ρ', Step F F' H H' → Rel K BI Oe F' bx σ' H' ρ' → E.nx ρ' → Dn.nx σ' H'
  bk : ∀ F' σ' H' ρ', Step F F' H H' → Rel K BI Oe F' bx σ' H' ρ' → E.bk ρ' → Dn.bk σ' H'
  ct : ∀ F' σ' H' ρ', Step F F' H H' → Rel K BI Oe F' bx σ' H' ρ' → E.ct ρ' → Dn.ct σ' H'
  rt : ∀ F' d v H', Step F F' H H' → (∀ B C, bx = some (B, C) → BI.ok H' B C) → Dd K (hid (fun b => Oe b ∨ isBx bx b) H') v d → E.rt d → Dn.rt v H'
theorem Wants.step {Oe F F1 : ASet} {bx : Bx} {H H1 : Hp} {E : DD.Ends} {Dn : L2.Ends} (w : Wants K BI Oe F bx H E Dn) (s : Step F F1 H H1) : Wants K BI Oe F1 bx H1 E Dn :=
  ⟨fun F' σ' H' ρ' t => w.nx F' σ' H' ρ' (s.trans t), fun F' σ' H' ρ' t => w.bk F' σ' H' ρ' (s.trans t), fun F' σ' H' ρ' t => w.ct F' σ' H' ρ' (s.trans t), fun F' d v H' t => w.rt F' d v H' (s.trans t)⟩
def rdS (C : Ctx) (st : S) : TS := fun Dn σ H => ∃ (Oe F : ASet) (bx : Bx) (ρ : En) (E : DD.Ends), Rel K BI Oe F bx σ H ρ ∧ exec C st ρ E ∧ Wants K BI Oe F bx H E Dn
def rdSs (C : Ctx) (st : Ss) : TS := fun Dn σ H => ∃ (Oe F : ASet) (bx : Bx) (ρ : En) (E : DD.Ends), Rel K BI Oe F bx σ H ρ ∧ execs C st ρ E ∧ Wants K BI Oe F bx H E Dn
end
theorem ps_imp {X : Cx} {e : Stmt} {t t' : TS} (h : PS X e t) (w : ∀ Dn σ H, t' Dn σ H → t Dn σ H) : PS X e t' := ⟨fun pins s σ H Dn I q => h.run pins s σ H Dn I (w Dn σ H q)⟩
theorem pss_imp {X : Cx} {e : List Stmt} {t t' : TS} (h : PSs X e t) (w : ∀ Dn σ H, t' Dn σ H → t Dn σ H) : PSs X e t' := ⟨fun pins s σ H Dn I q => h.run pins s σ H Dn I (w Dn σ H q)⟩

section
variable {K : PySem.W.Frag} {BI : BoxI} {Oe F : ASet} {bx : Bx} {σ : L2.St} {H H' : Hp} {ρ : En}
theorem hid_eq {O O' : ASet} {H : Hp} (h : ∀ b, O b ↔ O' b) : hid O H = hid O' H := by
  funext b
  unfold hid
  by_cases z : O b
  · rw [if_pos z, if_pos ((h b).mp z)]
  · rw [if_neg z, if_neg (fun q => z ((h b).mpr q))]
theorem Rel.bxF (r : Rel K BI Oe F bx σ H ρ) {b : Addr} (h : isBx bx b) : F b := by
  obtain ⟨B, C, q, z⟩ := h
  obtain ⟨h1, h2, _⟩ := r.bok B C q
  rcases z with rfl | rfl
  · exact h1
  · exact h2
/-- a new list becomes the frame's own -/
theorem Rel.setOwn {p : Addr} {vs : List V} {ds : List D} {i : Nat} (r : Rel K BI (fun b => Oe b ∨ b = p) F bx σ H ρ) (hp : ¬ Oe p) (h : H p = some (.lst vs)) (hd : DdAll K (hid (off (fun b => Oe b ∨ b = p) F) H) vs ds) :
    Rel K BI Oe (fun b => F b ∨ b = p) bx (σ.set i (some (.ref p))) H (ρ.set i (some (.own (.list ds)))) := by
  have he : hid (off (fun b => Oe b ∨ b = p) F) H = hid (off Oe (fun b => F b ∨ b = p)) H := hid_eq fun b => by
    show ((Oe b ∨ b = p) ∨ F b) ↔ (Oe b ∨ F b ∨ b = p)
    exact ⟨fun z => z.elim (fun z => z.elim .inl fun z => .inr (.inr z)) fun z => .inr (.inl z), fun z => z.elim (fun z => .inl (.inl z)) fun z => z.elim .inr fun z => .inl (.inr z)⟩
  have nF : ¬ F p := r.dis p (.inr rfl)
  have get : ∀ {j : Nat} {val : Vl}, (ρ.set i (some (.own (.list ds))))[j]? = some (some val) → (j ≠ i ∧ ρ[j]? = some (some val) ∧ (σ.set i (some (.ref p)))[j]? = σ[j]?) ∨ (j = i ∧ val = .own (.list ds) ∧ (σ.set i (some (.ref p)))[j]? = some (some (.ref p))) := by
    intro j val q
    by_cases e : i = j
    · subst e
      have hi : i < ρ.length := by
        have := (List.getElem?_eq_some_iff.mp q).1
        simpa using this
      rw [List.getElem?_set_self hi] at q
      cases q
      exact .inr ⟨rfl, rfl, by rw [List.getElem?_set_self (by rw [← r.len]; exact hi)]⟩
    · rw [List.getElem?_set_ne e] at q
      exact .inl ⟨fun z => e z.symm, q, List.getElem?_set_ne e⟩
  refine ⟨by simp [r.len], fun j x q => ?_, fun j x q => ?_, fun j k x y hjk q q' => ?_, fun j q => ?_, fun j q => ?_, fun B C q => ?_, fun b q => ?_, fun b q => ?_⟩
  · rcases get q with ⟨_, h1, h2⟩ | ⟨_, h1, _⟩
    · rw [h2, ← he]; exact r.dat j x h1
    · cases h1
  · rcases get q with ⟨_, h1, h2⟩ | ⟨_, h1, h2⟩
    · obtain ⟨a, g1, g2, g3, g4⟩ := r.own j x h1
      exact ⟨a, by rw [h2]; exact g1, .inl g2, g3, by rw [← he]; exact g4⟩
    · cases h1
      exact ⟨p, h2, .inr rfl, fun z => nF (r.bxF z), ds, vs, rfl, h, by rw [← he]; exact hd⟩
  · rcases get q with ⟨_, h1, h2⟩ | ⟨e1, h1, h2⟩
    · rcases get q' with ⟨_, h3, h4⟩ | ⟨e2, h3, h4⟩
      · rw [h2, h4]; exact r.sep j k x y hjk h1 h3
      · rw [h2, h4]
        obtain ⟨a, g1, g2, _⟩ := r.own j x h1
        rw [g1]
        intro z; cases z; exact nF g2
    · rcases get q' with ⟨_, h3, h4⟩ | ⟨e2, h3, h4⟩
      · rw [h2, h4]
        obtain ⟨a, g1, g2, _⟩ := r.own k y h3
        rw [g1]
        intro z; cases z; exact nF g2
      · exact absurd (e1.trans e2.symm) hjk
  · rcases get q with ⟨_, h1, h2⟩ | ⟨_, h1, _⟩
    · rw [h2]; exact r.box j h1
    · cases h1
  · rcases get q with ⟨_, h1, h2⟩ | ⟨_, h1, _⟩
    · rw [h2]
      obtain ⟨a, ns, g1, g2, g3⟩ := r.scr j h1
      exact ⟨a, ns, g1, by rw [← he]; exact g2, g3⟩
    · cases h1
  · obtain ⟨h1, h2, h3⟩ := r.bok B C q
    exact ⟨.inl h1, .inl h2, h3⟩
  · refine r.trk b ?_
    rcases q with q | q | q
    · exact .inl (.inl q)
    · exact .inr q
    · exact .inl (.inr q)
  · rintro (z | z)
    · exact r.dis b (.inl q) z
    · exact hp (by rw [← z]; exact q)
/-- an own list is kept as data -/
theorem Rel.frz {i : Nat} {x : D} (r : Rel K BI Oe F bx σ H ρ) (h : ρ[i]? = some (some (.own x))) : ∃ F', (∀ b, F' b → F b) ∧ (∀ b, isBx bx b → F' b) ∧ Rel K BI Oe F' bx σ H (ρ.set i (some (.d x))) ∧ ∃ v, σ[i]? = some (some v) ∧ Dd K (hid (off Oe F') H) v x := by
  obtain ⟨a, h1, h2, h3, ds, vs, rfl, h4, h5⟩ := r.own i x h
  have nO : ¬ Oe a := fun z => r.dis a z h2
  have hh : Sub (hid (off Oe F) H) (hid (off Oe fun b => F b ∧ b ≠ a) H) := hid_anti fun b z => z.elim .inl fun z => .inr z.1
  have dd : Dd K (hid (off Oe fun b => F b ∧ b ≠ a) H) (.ref a) (.list ds) := .lst (hid_some.mpr ⟨fun z => z.elim nO fun z => z.2 rfl, h4⟩) (dpall_sub hh h5)
  refine ⟨fun b => F b ∧ b ≠ a, fun b z => z.1, fun b z => ⟨r.bxF z, fun q => h3 (by rw [← q]; exact z)⟩, ?_, .ref a, h1, dd⟩
  have hi : i < ρ.length := (List.getElem?_eq_some_iff.mp h).1
  have get : ∀ {j : Nat} {val : Vl}, (ρ.set i (some (.d (.list ds))))[j]? = some (some val) → (j ≠ i ∧ ρ[j]? = some (some val)) ∨ (j = i ∧ val = .d (.list ds)) := by
    intro j val q
    by_cases e : i = j
    · subst e
      rw [List.getElem?_set_self hi] at q
      cases q
      exact .inr ⟨rfl, rfl⟩
    · rw [List.getElem?_set_ne e] at q
      exact .inl ⟨fun z => e z.symm, q⟩
  refine ⟨by simp [r.len], fun j x q => ?_, fun j x q => ?_, fun j k x y hjk q q' => ?_, fun j q => ?_, fun j q => ?_, fun B C q => ?_, fun b q => r.trk b (q.elim .inl fun z => .inr z.1), fun b q z => r.dis b q z.1⟩
  · rcases get q with ⟨_, g⟩ | ⟨rfl, g⟩
    · obtain ⟨v, g1, g2⟩ := r.dat j x g
      exact ⟨v, g1, dp_sub hh g2⟩
    · cases g; exact ⟨_, h1, dd⟩
  · rcases get q with ⟨n, g⟩ | ⟨rfl, g⟩
    · obtain ⟨a', g1, g2, g3, es, ws, g4, g5, g6⟩ := r.own j x g
      refine ⟨a', g1, ⟨g2, fun z => ?_⟩, g3, es, ws, g4, g5, dpall_sub hh g6⟩
      exact r.sep j i x _ n g h (by rw [g1, h1, z])
    · cases g
  · rcases get q with ⟨_, g⟩ | ⟨rfl, g⟩
    · rcases get q' with ⟨_, g'⟩ | ⟨rfl, g'⟩
      · exact r.sep j k x y hjk g g'
      · cases g'
    · cases g
  · rcases get q with ⟨_, g⟩ | ⟨rfl, g⟩
    · exact r.box j g
    · cases g
  · rcases get q with ⟨_, g⟩ | ⟨rfl, g⟩
    · obtain ⟨a', ns, g1, g2, g3⟩ := r.scr j g
      exact ⟨a', ns, g1, sql_sub hh g2, g3⟩
    · cases g
  · obtain ⟨g1, g2, g3⟩ := r.bok B C q
    exact ⟨⟨g1, fun z => h3 ⟨B, C, q, .inl z.symm⟩⟩, ⟨g2, fun z => h3 ⟨B, C, q, .inr z.symm⟩⟩, g3⟩
/-- an own list changes -/
theorem Rel.chg {i : Nat} {x : D} {a : Addr} {ds : List D} {vs : List V} (r : Rel K BI Oe F bx σ H ρ) (h : ρ[i]? = some (some (.own x))) (ha : σ[i]? = some (some (.ref a))) (hd : DdAll K (hid (off Oe F) H) vs ds) : Rel K BI Oe F bx σ (upd H a (.lst vs)) (ρ.set i (some (.own (.list ds)))) ∧ Ext F H (upd H a (.lst vs)) := by
  obtain ⟨a', h1, h2, h3, _⟩ := r.own i x h
  rw [ha] at h1
  have ea : a = a' := by cases h1; rfl
  subst ea
  have hi : i < ρ.length := (List.getElem?_eq_some_iff.mp h).1
  have hx : Ext F H (upd H a (.lst vs)) := fun b o q n => by
    rw [upd_ne (fun z => n (by rw [z]; exact h2))]; exact q
  have hh := off_sub (Oe := Oe) hx
  have get : ∀ {j : Nat} {val : Vl}, (ρ.set i (some (.own (.list ds))))[j]? = some (some val) → (j ≠ i ∧ ρ[j]? = some (some val)) ∨ (j = i ∧ val = .own (.list ds)) := by
    intro j val q
    by_cases e : i = j
    · subst e
      rw [List.getElem?_set_self hi] at q
      cases q
      exact .inr ⟨rfl, rfl⟩
    · rw [List.getElem?_set_ne e] at q
      exact .inl ⟨fun z => e z.symm, q⟩
  refine ⟨⟨by simp [r.len], fun j y q => ?_, fun j y q => ?_, fun j k y z hjk q q' => ?_, fun j q => ?_, fun j q => ?_, fun B C q => ?_, fun b q => ?_, r.dis⟩, hx⟩
  · rcases get q with ⟨_, g⟩ | ⟨rfl, g⟩
    · obtain ⟨v, g1, g2⟩ := r.dat j y g
      exact ⟨v, g1, dp_sub hh g2⟩
    · cases g
  · rcases get q with ⟨n, g⟩ | ⟨rfl, g⟩
    · obtain ⟨a', g1, g2, g3, es, ws, g4, g5, g6⟩ := r.own j y g
      have ne : a' ≠ a := fun z => r.sep j i y x n g h (by rw [g1, ha, z])
      exact ⟨a', g1, g2, g3, es, ws, g4, by rw [upd_ne ne]; exact g5, dpall_sub hh g6⟩
    · cases g
      exact ⟨a, ha, h2, h3, ds, vs, rfl, upd_same, dpall_sub hh hd⟩
  · rcases get q with ⟨_, g⟩ | ⟨e1, g⟩
    · rcases get q' with ⟨_, g'⟩ | ⟨e2, g'⟩
      · exact r.sep j k y z hjk g g'
      · rw [e2]; exact r.sep j i y x (fun z => hjk (by rw [z, e2])) g h
    · rcases get q' with ⟨_, g'⟩ | ⟨e2, g'⟩
      · rw [e1]; exact r.sep i k x z (fun z => hjk (by rw [e1, z])) h g'
      · exact absurd (e1.trans e2.symm) hjk
  · rcases get q with ⟨_, g⟩ | ⟨rfl, g⟩
    · exact r.box j g
    · cases g
  · rcases get q with ⟨_, g⟩ | ⟨rfl, g⟩
    · obtain ⟨a', ns, g1, g2, g3⟩ := r.scr j g
      exact ⟨a', ns, g1, sql_sub hh g2, g3⟩
    · cases g
  · obtain ⟨g1, g2, g3⟩ := r.bok B C q
    exact ⟨g1, g2, BI.loc g3 (upd_ne fun z => h3 ⟨B, C, q, .inl z.symm⟩) (upd_ne fun z => h3 ⟨B, C, q, .inr z.symm⟩)⟩
  · by_cases e : b = a
    · rw [e, upd_same]; exact fun z => by cases z
    · rw [upd_ne e]; exact r.trk b q
end

section
variable {X : Cx} {BI : BoxI} {C : Ctx} {a b c : Expr} {a' b' c' : Ex} {pos : Pos} {st : Stmt} {sts : List Stmt}
/-! blocks -/
theorem s_snil : PSs X [] (rdSs X.K BI C .nil) := pss_imp pss_nil fun Dn σ H ⟨Oe, F, bx, ρ, E, r, e, w⟩ => w.nx F σ H ρ (Step.refl _ _) r e
theorem s_scons {s' : S} {ss' : Ss} (h1 : PS X st (rdS X.K BI C s')) (h2 : PSs X sts (rdSs X.K BI C ss')) : PSs X (st :: sts) (rdSs X.K BI C (.cons s' ss')) :=
  pss_imp (pss_cons h1 h2) fun Dn σ H ⟨Oe, F, bx, ρ, E, r, e, w⟩ =>
    ⟨Oe, F, bx, ρ, ⟨fun ρ' => execs C ss' ρ' E, E.rt, E.bk, E.ct⟩, r, e, ⟨fun F' σ' H' ρ' t r' e' => ⟨Oe, F', bx, ρ', E, r', e', w.step X.K BI t⟩, w.bk, w.ct, w.rt⟩⟩
theorem s_frz {i : Nat} {ss' : Ss} (h2 : PSs X sts (rdSs X.K BI C ss')) : PSs X sts (rdSs X.K BI C (.cons (.frz i) ss')) :=
  pss_imp h2 fun Dn σ H ⟨Oe, F, bx, ρ, E, r, e, w⟩ => by
    have e : exec C (.frz i) ρ ⟨fun ρ' => execs C ss' ρ' E, E.rt, E.bk, E.ct⟩ := e
    simp only [exec] at e
    split at e
    · rename_i x q
      obtain ⟨F', h1, _, h3, _⟩ := r.frz q
      exact ⟨Oe, F', bx, _, E, h3, e, w.step X.K BI ⟨Ext.refl F H, fun b z => .inl (h1 b z)⟩⟩
    · exact ⟨Oe, F, bx, ρ, E, r, e, w⟩
/-! assignments -/
theorem w_asg {te : TE} {g : TG} {tg : Tg} (ht : ∀ σ H Q, rdE X.K BI C a' σ H Q → te σ H Q) (hg : ∀ v σ H Q, rdTg X.K BI tg v σ H Q → g v σ H Q) (Dn : L2.Ends) (σ : L2.St) (H : Hp) (h : rdS X.K BI C (.asg tg a') Dn σ H) : tAsg te g Dn σ H := by
  obtain ⟨Oe, F, bx, ρ, E, r, e, w⟩ := h
  refine ht σ H _ ⟨Oe, F, bx, ρ, _, r, e, fun rv ρ1 v H1 e1 r1 o1 _ e => ?_⟩
  obtain ⟨d, rfl, hd, e⟩ := cap_dd o1 e
  exact hg v σ H1 _ ⟨Oe, F, bx, ρ1, d, E.nx, r1, hd, e, fun ρ' σ' r' _ k => w.nx F σ' H1 ρ' e1.step r' k⟩
theorem w_nm {i : Nat} {v : V} {σ : L2.St} {H : Hp} {Q : L2.St → Hp → Prop} (h : rdTg X.K BI (.nm i) v σ H Q) : gName i v σ H Q := by
  obtain ⟨Oe, F, bx, ρ, d, kd, rr, hd, e, post⟩ := h
  exact post _ _ (rr.setD hd) (fun vs hv => wipe_set (hv i (by simp [tgS]))) e
theorem s_asg {tge : Expr} {tg : Tg} (ha : PE X a (rdE X.K BI C a')) (hg : PG X tge (rdTg X.K BI tg)) (hs : swapsWithSole [tge] a pos.line X.env = pure false) (hw : swappedStores [tge] a X.env = pure none) (h1 : (assignEach [tge] X.env).map (·.2) = [assign tge X.env]) :
    PS X (.Assign [tge] a pos) (rdS X.K BI C (.asg tg a')) := ps_imp (ps_asg ha hg hs hw h1) (w_asg (fun _ _ _ h => h) fun _ _ _ _ h => h)
theorem w_own {te : TE} {i : Nat} (ht : ∀ σ H Q, rdE X.K BI C a' σ H Q → te σ H Q) (Dn : L2.Ends) (σ : L2.St) (H : Hp) (h : rdS X.K BI C (.own i a') Dn σ H) : tAsg te (gName i) Dn σ H := by
  obtain ⟨Oe, F, bx, ρ, E, r, ⟨hf, e⟩, w⟩ := h
  refine ht σ H _ ⟨Oe, F, bx, ρ, _, r, e, fun rv ρ1 v H1 e1 r1 o1 f1 e => ?_⟩
  obtain ⟨d, rfl, hd, xs, rfl, e⟩ := cap_dd o1 e
  obtain ⟨p, vs, rfl, hp, h1, h2, h3⟩ := f1 hf _ rfl
  exact w.nx (fun b => F b ∨ b = p) _ H1 _ ⟨e1, fun b z => z.elim .inl fun z => .inr (by rw [z]; exact hp)⟩ (h3.setOwn (r.fresh hp).1 h1 h2) e
theorem s_own {i : Nat} {e : Expr} (hN : X.N.Nodup) (ha : PE X a (rdE X.K BI C a')) (hn : NmOk X i e) (hs : swapsWithSole [e] a pos.line X.env = pure false) (hw : swappedStores [e] a X.env = pure none) :
    PS X (.Assign [e] a pos) (rdS X.K BI C (.own i a')) := by
  obtain ⟨x, p, rfl, n1, n2, n3⟩ := hn.ex
  exact ps_imp (ps_asg ha (pg_name hN n1 n2 n3) hs hw rfl) (w_own fun _ _ _ h => h)
theorem s_par2 {i j : Nat} {oi oj : Bool} {x y : Str} {px py pt pt2 : Pos} {kt k2 : Nat} (hc : X.calm = true) (hN : X.N.Nodup) (hi : X.N[i]? = some x) (hj : X.N[j]? = some y) (hij : i ≠ j) (hx : X.env.scope.names.lookup x = some .local) (hy : X.env.scope.names.lookup y = some .local)
    (ha : PE X a (rdE X.K BI C a')) (hb : PE X b (rdE X.K BI C b')) (hs : starEach [a, b] X.env = (false, eval a X.env) :: starEach [b] X.env) (hs2 : starEach [b] X.env = (false, eval b X.env) :: starEach [] X.env)
    (hw : swappedStores [.Tuple [.Name x px, .Name y py] kt pt] (.Tuple [a, b] k2 pt2) X.env = pure (some [x, y])) : PS X (.Assign [.Tuple [.Name x px, .Name y py] kt pt] (.Tuple [a, b] k2 pt2) pos) (rdS X.K BI C (.par2 i j oi oj a' b')) :=
  ps_imp (ps_par hc hN hi hj hij hx hy (pa_cons ha (pa_cons hb pa_nil hs2) hs) hw) fun Dn σ H ⟨Oe, F, bx, ρ, E, r, e, w⟩ => by
    refine ⟨Oe, F, bx, ρ, _, r, e, fun rv ρ1 v H1 e1 r1 o1 f1 e => ?_⟩
    -- the second value is reckoned with the first one off limits
    have key : ∀ (Oe1 : ASet), Rel X.K BI Oe1 F bx σ H1 ρ1 → (∀ H2 ρ2 rw u, Ext F H1 H2 → Rel X.K BI Oe1 F bx σ H2 ρ2 → RvOk X.K Oe1 F bx σ H2 rw u → (frs b' = true → FreshAt X.K BI Oe1 F bx σ H1 H2 ρ2 u rw) →
        (cap rv fun d => cap rw fun e => slotOk oi a' d ∧ slotOk oj b' e ∧ E.nx ((ρ2.set i (some (slotV oi d))).set j (some (slotV oj e)))) → Dn.nx ((σ.set i (some v)).set j (some u)) H2) →
        rdE X.K BI C b' σ H1 fun y H2 => ∃ v_1 w, [v, y] = [v_1, w] ∧ Dn.nx ((σ.set i (some v_1)).set j (some w)) H2 := fun Oe1 rr k =>
      ⟨Oe1, F, bx, ρ1, _, rr, e, fun rw ρ2 u H2 e2 r2 o2 f2 e => ⟨v, u, rfl, k H2 ρ2 rw u e2 r2 o2 f2 e⟩⟩
    have comm : ∀ u : V, (σ.set i (some v)).set j (some u) = (σ.set j (some u)).set i (some v) := fun u => List.set_comm _ _ hij
    have commR : ∀ (ρ2 : En) (d e : Vl), (ρ2.set i (some d)).set j (some e) = (ρ2.set j (some e)).set i (some d) := fun ρ2 d e => List.set_comm _ _ hij
    cases oi with
    | false =>
      refine key Oe r1 fun H2 ρ2 rw u e2 r2 o2 f2 e => ?_
      obtain ⟨d, rfl, hd, e⟩ := cap_dd (rv_ext o1 e2) e
      obtain ⟨d2, rfl, hd2, _, s2, e⟩ := cap_dd o2 e
      cases oj with
      | false => exact w.nx F _ H2 _ (e1.trans e2).step ((r2.setD hd).setD hd2) e
      | true =>
        obtain ⟨hf, xs, rfl⟩ := s2 rfl
        obtain ⟨p, vs, rfl, hp, h1, h2, h3⟩ := f2 hf _ rfl
        have hp0 := none_back r1 e1 hp
        have r3 := (h3.setD (i := i) (v := v) (x := d) ?_).setOwn (i := j) (r.fresh hp0).1 h1 h2
        · exact w.nx (fun b => F b ∨ b = p) _ H2 _ ⟨e1.trans e2, fun b z => z.elim .inl fun z => .inr (by rw [z]; exact hp0)⟩ r3 e
        · exact dp_sub (sub_O e2 fun b z => by
            rcases z with (z | z) | z
            · exact .inl (.inl z)
            · exact .inr (by rw [z]; exact hp)
            · exact .inl (.inr z)) (by obtain ⟨_, q, h, _⟩ := cap_dd o1 (show cap (.d d) fun _ => True from trivial); cases q; exact h)
    | true =>
      by_cases hz : frs a' = true ∧ ∃ ds, rv = .d (.list ds)
      · obtain ⟨hf, ds, rfl⟩ := hz
        obtain ⟨p, vs, rfl, hp, h1, h2, h3⟩ := f1 hf _ rfl
        have np := r.fresh hp
        have nF : ¬ F p := np.2
        refine key _ h3 fun H2 ρ2 rw u e2 r2 o2 f2 e => ?_
        obtain ⟨d2, rfl, hd2, _, s2, e⟩ := cap_dd (k := fun e => slotOk true a' (.list ds) ∧ slotOk oj b' e ∧ E.nx ((ρ2.set i (some (slotV true (.list ds)))).set j (some (slotV oj e)))) o2 e
        rw [comm u]
        rw [commR] at e
        have h1' : H2 p = some (.lst vs) := e2 p _ h1 nF
        cases oj with
        | false =>
          have r3 := (r2.setD (i := j) hd2).setOwn (i := i) np.1 h1' (dpall_sub (off_sub e2) h2)
          exact w.nx (fun b => F b ∨ b = p) _ H2 _ ⟨e1.trans e2, fun b z => z.elim .inl fun z => .inr (by rw [z]; exact hp)⟩ r3 e
        | true =>
          obtain ⟨hf2, xs, rfl⟩ := s2 rfl
          obtain ⟨q, ws, rfl, hq, g1, g2, g3⟩ := f2 hf2 _ rfl
          have hq0 := none_back r1 e1 hq
          have r3 := (g3.setOwn (i := j) (h3.fresh hq).1 g1 g2).setOwn (i := i) np.1 h1' (dpall_sub (sub_O e2 fun b z => by
            rcases z with z | z | z
            · exact .inl (.inl z)
            · exact .inl (.inr z)
            · exact .inr (by rw [z]; exact hq)) h2)
          exact w.nx (fun b => (F b ∨ b = q) ∨ b = p) _ H2 _ ⟨e1.trans e2, fun b z => by
            rcases z with (z | z) | z
            · exact .inl z
            · exact .inr (by rw [z]; exact hq0)
            · exact .inr (by rw [z]; exact hp)⟩ r3 e
      · refine key Oe r1 fun H2 ρ2 rw u e2 r2 o2 f2 e => ?_
        obtain ⟨d, rfl, hd, e⟩ := cap_dd (rv_ext o1 e2) e
        obtain ⟨d2, rfl, hd2, s1, _⟩ := cap_dd o2 e
        obtain ⟨g1, xs, rfl⟩ := s1 rfl
        exact absurd ⟨g1, xs, rfl⟩ hz
theorem s_aug {i : Nat} {op : Operator} {e : Expr} (hN : X.N.Nodup) (ha : PE X a (rdE X.K BI C a')) (hn : NmOk X i e) (hop : op = .Add ∨ op = .Sub) : PS X (.AugAssign e op a pos) (rdS X.K BI C (.aug i op a')) := by
  obtain ⟨x, p, rfl, n1, n2, n3⟩ := hn.ex
  rcases hop with rfl | rfl
  · exact ps_imp (ps_aug hN n1 n2 ha ip_add n3) fun Dn σ H ⟨Oe, F, bx, ρ, E, r, e, w⟩ => by
      simp only [exec] at e
      split at e
      · rename_i y q
        obtain ⟨v, h1, h2⟩ := r.dat _ _ q
        cases h2
        refine ⟨_, h1, Oe, F, bx, ρ, _, r, e, fun rv ρ1 u H1 e1 r1 o1 _ e => ?_⟩
        obtain ⟨d, hd, n, rfl, e⟩ := bor_dc r1 o1 e
        cases hd
        rcases e with ⟨_, e⟩ | ⟨z, _⟩
        · exact ⟨_, _, rfl, rfl, w.nx F _ H1 _ e1.step (r1.setD (.int _)) e⟩
        · cases z
      · exact e.elim
  · exact ps_imp (ps_aug hN n1 n2 ha ip_sub n3) fun Dn σ H ⟨Oe, F, bx, ρ, E, r, e, w⟩ => by
      simp only [exec] at e
      split at e
      · rename_i y q
        obtain ⟨v, h1, h2⟩ := r.dat _ _ q
        cases h2
        refine ⟨_, h1, Oe, F, bx, ρ, _, r, e, fun rv ρ1 u H1 e1 r1 o1 _ e => ?_⟩
        obtain ⟨d, hd, n, rfl, e⟩ := bor_dc r1 o1 e
        cases hd
        rcases e with ⟨z, _⟩ | ⟨_, e⟩
        · cases z
        · exact ⟨_, _, rfl, rfl, w.nx F _ H1 _ e1.step (r1.setD (.int _)) e⟩
      · exact e.elim
/-- an own list, found -/
theorem own_at {K : PySem.W.Frag} {Oe F : ASet} {bx : Bx} {σ : L2.St} {H : Hp} {ρ : En} {i : Nat} {xs : List PyData} (r : Rel K BI Oe F bx σ H ρ) (q : ρ[i]? = some (some (.own (.list xs)))) : ∃ l vs, σ[i]? = some (some (.ref l)) ∧ H l = some (.lst vs) ∧ DdAll K (hid (off Oe F) H) vs xs := by
  obtain ⟨l, h1, h2, h3, ds, vs, e, h4, h5⟩ := r.own _ _ q
  cases e
  exact ⟨l, vs, h1, h4, h5⟩
theorem ty_list {K : PySem.W.Frag} {l : Addr} {H : Hp} {vs : List V} (h : H l = some (.lst vs)) : tyV K "list" (.ref l) H := Or.inl ⟨rfl, _, SqL.of h⟩
theorem isOwn_of {ρ : En} {i : Nat} (h : isOwn ρ i) : ∃ xs, ρ[i]? = some (some (.own (.list xs))) := by
  unfold isOwn at h
  split at h
  · rename_i xs q; exact ⟨xs, q⟩
  · exact h.elim
theorem s_app {i : Nat} (h : ∀ {t : TA}, PA X [a] t → PS X st (tDrop (tBM X.K "list" rAppend (tVar i) t))) (ha : PE X a (rdE X.K BI C a')) (hs : starEach [a] X.env = (false, eval a X.env) :: starEach [] X.env) : PS X st (rdS X.K BI C (.app i a')) :=
  ps_imp (h (pa_cons ha pa_nil hs)) fun Dn σ H ⟨Oe, F, bx, ρ, E, r, ⟨ho, e⟩, w⟩ => by
    obtain ⟨x0, q0⟩ := isOwn_of ho
    obtain ⟨l, vs0, hl, h0, _⟩ := own_at r q0
    refine ⟨.ref l, hl, ty_list h0, Oe, F, bx, ρ, _, r, e, fun rv ρ1 u H1 e1 r1 o1 _ e => ?_⟩
    obtain ⟨d, rfl, hd, e⟩ := cap_dd o1 e
    split at e
    · rename_i xs q
      obtain ⟨l2, vs, g1, g2, g3⟩ := own_at r1 q
      rw [hl] at g1; cases g1
      obtain ⟨r2, x2⟩ := r1.chg q hl (dpa_append g3 (dpa_one hd))
      exact ⟨_, _, _, rfl, rfl, g2, by rw [dpa_len g3]; exact e.1, w.nx F _ _ _ (e1.trans x2).step r2 e.2⟩
    · exact e.elim
theorem s_ext {i : Nat} (h : ∀ {t : TA}, PA X [a] t → PS X st (tDrop (tBM X.K "list" rExtend (tVar i) t))) (ha : PE X a (rdE X.K BI C a')) (hs : starEach [a] X.env = (false, eval a X.env) :: starEach [] X.env) : PS X st (rdS X.K BI C (.ext i a')) :=
  ps_imp (h (pa_cons ha pa_nil hs)) fun Dn σ H ⟨Oe, F, bx, ρ, E, r, ⟨ho, e⟩, w⟩ => by
    obtain ⟨x0, q0⟩ := isOwn_of ho
    obtain ⟨l, vs0, hl, h0, _⟩ := own_at r q0
    refine ⟨.ref l, hl, ty_list h0, Oe, F, bx, ρ, _, r, e, fun rv ρ1 u H1 e1 r1 o1 _ e => ?_⟩
    obtain ⟨d, hd, e⟩ := bor_dc r1 o1 e
    split at e
    · rename_i xs q
      obtain ⟨ys, rfl, hz, e⟩ := e
      cases hd with | lst b1 b2 =>
      obtain ⟨l2, vs, g1, g2, g3⟩ := own_at r1 q
      rw [hl] at g1; cases g1
      obtain ⟨r2, x2⟩ := r1.chg q hl (dpa_append g3 b2)
      exact ⟨_, _, _, _, rfl, rfl, g2, b1, by rw [dpa_len g3, dpa_len b2]; exact hz, w.nx F _ _ _ (e1.trans x2).step r2 e⟩
    · exact e.elim
theorem s_setI {i : Nat} {e : Expr} {x : Str} {p : Pos} (hn : X.N[i]? = some x) (hv : Vis X.env.scope x) (hd : (x == ("__debug__" : Str)) = false) (hcd : (x == ("__classdict__" : Str)) = false) (ha : PE X a (rdE X.K BI C a')) (hb : PE X b (rdE X.K BI C b'))
    (hs : ∀ {g : TG}, PG X e g → PS X st (tAsg (rdE X.K BI C a') g)) (hg : ∀ {to ti : TE} {t : TSet} {o : Expr}, PE X (.Name x p) to → PE X b ti → PSet X t → PG X e (gSub to ti t)) : PS X st (rdS X.K BI C (.setI i b' a')) :=
  ps_imp (hs (hg (o := b) (pe_var hn hv hd hcd) hb set_list)) fun Dn σ H ⟨Oe, F, bx, ρ, E, r, e, w⟩ => by
    refine ⟨Oe, F, bx, ρ, _, r, e, fun rv ρ1 v H1 e1 r1 o1 _ e => ?_⟩
    obtain ⟨ho, e⟩ := e
    obtain ⟨x0, q0⟩ := isOwn_of ho
    obtain ⟨l, vs0, hl, h0, _⟩ := own_at r1 q0
    refine ⟨.ref l, hl, Oe, F, bx, ρ1, _, r1, e, fun rw ρ2 u H2 e2 r2 o2 _ e => ?_⟩
    obtain ⟨d, rfl, hd, e⟩ := cap_dd (rv_ext o1 e2) e
    obtain ⟨di, hdi, e⟩ := bor_dc r2 o2 e
    split at e
    · rename_i xs q
      obtain ⟨n, j, rfl, hj, e⟩ := e
      cases hdi
      obtain ⟨l2, vs, g1, g2, g3⟩ := own_at r2 q
      rw [hl] at g1; cases g1
      obtain ⟨r3, x3⟩ := r2.chg q hl (dpa_set (i := j) g3 hd)
      exact ⟨l, vs, n, j, rfl, rfl, g2, by rw [dpa_len g3]; exact hj, w.nx F _ _ _ ((e1.trans e2).trans x3).step r3 e⟩
    · exact e.elim
theorem s_pop0 {i : Nat} {e : Expr} {x : Str} {p : Pos} (hn : X.N[i]? = some x) (hv : Vis X.env.scope x) (hd : (x == ("__debug__" : Str)) = false) (hcd : (x == ("__classdict__" : Str)) = false)
    (h : ∀ {to : TE}, PE X (.Name x p) to → PE X e (tBM0 X.K "list" rPop to)) : PE X e (rdE X.K BI C (.pop0 i)) :=
  pe_imp (h (pe_var hn hv hd hcd)) fun σ H Q ⟨Oe, F, bx, ρ, kd, r, e, post⟩ => by
    simp only [ev] at e
    split at e
    · rename_i xs q
      obtain ⟨d, hd, e⟩ := e
      obtain ⟨l, vs, g1, g2, g3⟩ := own_at r q
      have hl := dpa_len g3
      obtain ⟨y, hy, dy⟩ := dpa_get g3 hd
      have g4 : DdAll X.K (hid (off Oe F) H) vs.dropLast xs.dropLast := by
        rw [List.dropLast_eq_take, List.dropLast_eq_take, hl]; exact dpa_take _ g3
      obtain ⟨r2, x2⟩ := r.chg q g1 g4
      refine ⟨.ref l, g1, ty_list g2, l, vs, y, rfl, rfl, g2, by rw [hl]; exact hy, post (.d d) _ y _ x2 r2 (dp_sub (off_sub x2) dy) (nofr rfl) e⟩
    · exact e.elim
theorem ixN_at {n : Nat} {i : Int} {j : Nat} (h : ixN n i = some j) : seqIndex? i n = some j ∧ -(n : Int) ≤ i ∧ i < n := ⟨(ixN_seq h).1, (ixN_seq h).2.2.1, (ixN_seq h).2.2.2⟩
theorem s_popA {i : Nat} {e : Expr} {x : Str} {p : Pos} (hn : X.N[i]? = some x) (hv : Vis X.env.scope x) (hd : (x == ("__debug__" : Str)) = false) (hcd : (x == ("__classdict__" : Str)) = false) (ha : PE X a (rdE X.K BI C a')) (hs : starEach [a] X.env = (false, eval a X.env) :: starEach [] X.env)
    (h : ∀ {to : TE} {t : TA}, PE X (.Name x p) to → PA X [a] t → PE X e (tBM X.K "list" rPopAt to t)) : PE X e (rdE X.K BI C (.popA i a')) :=
  pe_imp (h (pe_var hn hv hd hcd) (pa_cons ha pa_nil hs)) fun σ H Q ⟨Oe, F, bx, ρ, kd, r, ⟨ho, e⟩, post⟩ => by
    obtain ⟨x0, q0⟩ := isOwn_of ho
    obtain ⟨l, vs0, hl, h0, _⟩ := own_at r q0
    refine ⟨.ref l, hl, ty_list h0, Oe, F, bx, ρ, _, r, e, fun rv ρ1 u H1 e1 r1 o1 _ e => ?_⟩
    obtain ⟨d, hd, e⟩ := bor_dc r1 o1 e
    split at e
    · rename_i xs q
      obtain ⟨n, j, z, rfl, hb, hj, hz, e⟩ := e
      cases hd
      obtain ⟨l2, vs, g1, g2, g3⟩ := own_at r1 q
      rw [hl] at g1; cases g1
      have hlen := dpa_len g3
      obtain ⟨y, hy, dy⟩ := dpa_get g3 hz
      obtain ⟨c1, c2, c3⟩ := ixN_at hj
      obtain ⟨r2, x2⟩ := r1.chg q hl (dpa_eraseIdx (i := j) g3)
      exact ⟨l, vs, n, j, y, rfl, rfl, g2, hb.1, hb.2, by rw [hlen]; exact c1, hy, post (.d z) _ y _ (e1.trans x2) r2 (dp_sub (off_sub x2) dy) (nofr rfl) e⟩
    · exact e.elim
/-! returns, drops, tests, loops -/
theorem s_ret (ha : PE X a (rdE X.K BI C a')) : PS X (.Return (some a) pos) (rdS X.K BI C (.ret a')) :=
  ps_imp (ps_ret ha) fun Dn σ H ⟨Oe, F, bx, ρ, E, r, e, w⟩ => by
    refine ⟨Oe, F, bx, ρ, _, r, e, fun rv ρ1 v H1 e1 r1 o1 _ e => ?_⟩
    have bok : ∀ B C', bx = some (B, C') → BI.ok H1 B C' := fun B C' q => (r1.bok B C' q).2.2
    cases rv with
    | d x => exact w.rt F x v H1 e1.step bok (dp_sub (hid_anti fun b z => z.elim .inl fun z => .inr (r1.bxF z)) o1) e
    | box => exact e.elim
    | o i =>
      have e : bor ρ1 (.o i) E.rt := e
      simp only [bor] at e
      split at e
      · rename_i x q
        obtain ⟨F', h1, h2, _, v', h3, h4⟩ := r1.frz q
        have o1 : σ[i]? = some (some v) := o1
        rw [h3] at o1; cases o1
        exact w.rt F x v H1 e1.step bok (dp_sub (hid_anti fun b z => z.elim .inl fun z => .inr (h2 b z)) h4) e
      · exact e.elim
theorem s_retN : PS X (.Return none pos) (rdS X.K BI C .retN) := ps_imp ps_retN fun Dn σ H ⟨Oe, F, bx, ρ, E, r, e, w⟩ => w.rt F .none .non H (Step.refl _ _) (fun B C' q => (r.bok B C' q).2.2) .non e
theorem s_pass : PS X (.Pass pos) (rdS X.K BI C .pass) := ps_imp ps_pass fun Dn σ H ⟨Oe, F, bx, ρ, E, r, e, w⟩ => w.nx F σ H ρ (Step.refl _ _) r e
theorem s_brk : PS X (.Break pos) (rdS X.K BI C .brk) := ps_imp ps_break fun Dn σ H ⟨Oe, F, bx, ρ, E, r, e, w⟩ => w.bk F σ H ρ (Step.refl _ _) r e
theorem s_cnt : PS X (.Continue pos) (rdS X.K BI C .cnt) := ps_imp ps_continue fun Dn σ H ⟨Oe, F, bx, ρ, E, r, e, w⟩ => w.ct F σ H ρ (Step.refl _ _) r e
theorem s_drop (ha : PE X a (rdE X.K BI C a')) (hs : swapsWith a none pos.line X.env = pure false) : PS X (.Expr a pos) (rdS X.K BI C (.drop a')) :=
  ps_imp (ps_expr ha hs) fun Dn σ H ⟨Oe, F, bx, ρ, E, r, e, w⟩ => ⟨Oe, F, bx, ρ, _, r, e, fun rv ρ1 v H1 e1 r1 _ _ e => w.nx F σ H1 ρ1 e1.step r1 e⟩
theorem s_ifs {p q : List Stmt} {p' q' : Ss} (hc : PT X c (rdT X.K BI C c')) (hp : PSs X p (rdSs X.K BI C p')) (hq : PSs X q (rdSs X.K BI C q')) : PS X (.If c p q pos) (rdS X.K BI C (.ifs c' p' q')) :=
  ps_imp (ps_if hc hp hq) fun Dn σ H ⟨Oe, F, bx, ρ, E, r, e, w⟩ => by
    refine ⟨Oe, F, bx, ρ, fun t ρ1 => if t = true then execs C p' ρ1 E else execs C q' ρ1 E, r, e, fun t ρ1 H1 e1 r1 e => ?_⟩
    cases t with
    | true => exact ⟨Oe, F, bx, ρ1, E, r1, e, w.step X.K BI e1.step⟩
    | false => exact ⟨Oe, F, bx, ρ1, E, r1, e, w.step X.K BI e1.step⟩
theorem s_whl {p : List Stmt} {p' : Ss} (hp : PassesOwn (model X.prog X.w) X.A X.env X.xe) (hc : PT X c (rdT X.K BI C c')) (hb : PSs X p (rdSs X.K BI C p')) : PS X (.While c p [] pos) (rdS X.K BI C (.whl c' p')) :=
  ps_imp (ps_while hp hc hb) fun Dn σ H ⟨Oe, F, bx, ρ, E, r, e, w⟩ => by
    obtain ⟨W, ⟨m0, w0⟩, turn⟩ := e
    refine ⟨fun m σ2 H2 => ∃ F2 ρ2, Step F F2 H H2 ∧ Rel X.K BI Oe F2 bx σ2 H2 ρ2 ∧ W m ρ2, ⟨m0, F, ρ, Step.refl _ _, r, w0⟩, ?_⟩
    rintro m σ2 H2 ⟨F2, ρ2, s2, r2, w2⟩
    refine ⟨Oe, F2, bx, ρ2, fun t ρ1 => if t = true then execs C p' ρ1 ⟨fun ρ2 => ∃ m', m' < m ∧ W m' ρ2, E.rt, E.nx, fun ρ2 => ∃ m', m' < m ∧ W m' ρ2⟩ else E.nx ρ1, r2, turn m ρ2 w2, fun t ρ3 H3 e3 r3 e => ?_⟩
    cases t with
    | false => exact w.nx F2 σ2 H3 ρ3 (s2.then e3) r3 e
    | true =>
      refine ⟨fun σ4 H4 => ∃ m', m' < m ∧ ∃ F4 ρ4, Step F F4 H H4 ∧ Rel X.K BI Oe F4 bx σ4 H4 ρ4 ∧ W m' ρ4, fun σ4 H4 n => n, ⟨Oe, F2, bx, ρ3, _, r3, e, ?_⟩⟩
      have s3 := s2.then e3
      refine ⟨fun F' σ' H' ρ' t r' ⟨m', hm, k⟩ => ⟨m', hm, F', ρ', s3.trans t, r', k⟩, fun F' σ' H' ρ' t r' k => w.nx F' σ' H' ρ' (s3.trans t) r' k, fun F' σ' H' ρ' t r' ⟨m', hm, k⟩ => ⟨m', hm, F', ρ', s3.trans t, r', k⟩, fun F' d v H' t => w.rt F' d v H' (s3.trans t)⟩
theorem s_for {tge iter : Expr} {p : List Stmt} {p' : Ss} {tg : Tg} {it : DD.It} (hp : PassesOwn (model X.prog X.w) X.A X.env X.xe) (hc : X.calm = true) (hi : PI X tge iter (rdI X.K BI C it)) (hg : PG X tge (rdTg X.K BI tg)) (hb : PSs X p (rdSs X.K BI C p'))
    (hs : ∀ x, foldedSetIterable iter X.env x = pure x) : PS X (.For tge iter p [] pos) (rdS X.K BI C (.forS tg it p')) :=
  ps_imp (ps_for hp hc hi hg hb hs) fun Dn σ H ⟨Oe, F, bx, ρ, E, r, e, w⟩ => by
    refine ⟨Oe, F, bx, ρ, _, r, e, fun J xs ρ1 H1 e1 r1 wd e => ?_⟩
    let fb : PyData → En → (En → Prop) → Prop := fun x ρ2 k => tgt tg x ρ2 fun ρ3 => execs C p' ρ3 ⟨k, E.rt, E.nx, k⟩
    have e : forL fb xs ρ1 E.nx := e
    refine ⟨fun i m σ2 H2 => m = xs.length - i ∧ i ≤ xs.length ∧ ∃ F2 ρ2, Step F F2 H1 H2 ∧ Rel X.K BI Oe F2 bx σ2 H2 ρ2 ∧ forL fb (xs.drop i) ρ2 E.nx, ⟨xs.length, by simp, Nat.zero_le _, F, ρ1, Step.refl _ _, r1, e⟩, ?_⟩
    rintro i m σ2 H2 ⟨rfl, hi, F2, ρ2, s2, r2, e⟩
    by_cases hlt : i < xs.length
    · right
      rw [List.drop_eq_getElem_cons hlt] at e
      refine ⟨wd.go i H2 hlt (s2.ext.mono fun _ => .inr), fun σ4 H4 => ∃ F4 ρ4, Step F F4 H1 H4 ∧ Rel X.K BI Oe F4 bx σ4 H4 ρ4 ∧ forL fb (xs.drop (i + 1)) ρ4 E.nx, fun σ4 H4 n => ⟨xs.length - (i + 1), by omega, rfl, hlt, n⟩, fun v H3 y => ?_⟩
      obtain ⟨s3, d, hd, dv⟩ := wd.yld i H2 v H3 (off Oe F2) hlt (s2.ext.mono fun _ => .inr) r2.trk (fun b z => z.elim (fun z => .inl (.inl z)) fun z => (s2.new b z).elim (fun z => .inl (.inr z)) .inr) y
      have ed : xs[i] = d := by
        have q := List.getElem?_eq_getElem hlt
        rw [hd] at q; cases q; rfl
      subst ed
      have t3 : Step F F2 H1 H3 := s2.then s3.ext
      have e : tgt tg xs[i] ρ2 fun ρ3 => execs C p' ρ3 ⟨fun ρ4 => forL fb (xs.drop (i + 1)) ρ4 E.nx, E.rt, E.nx, fun ρ4 => forL fb (xs.drop (i + 1)) ρ4 E.nx⟩ := e
      refine ⟨Oe, F2, bx, ρ2, _, _, r2.sub s3, dv, e, fun ρ3 σ3 r3 _ e => ?_⟩
      refine ⟨Oe, F2, bx, ρ3, _, r3, e, ?_⟩
      have t0 : Step F F2 H H3 := e1.step.trans t3
      exact ⟨fun F' σ' H' ρ' t r' k => ⟨F', ρ', t3.trans t, r', k⟩, fun F' σ' H' ρ' t r' k => w.nx F' σ' H' ρ' (t0.trans t) r' k, fun F' σ' H' ρ' t r' k => ⟨F', ρ', t3.trans t, r', k⟩, fun F' d v H' t => w.rt F' d v H' (t0.trans t)⟩
    · left
      have ei : i = xs.length := by omega
      subst ei
      rw [List.drop_of_length_le (Nat.le_refl _)] at e
      exact ⟨wd.stop H2 (s2.ext.mono fun _ => .inr), w.nx F2 σ2 H2 ρ2 (e1.step.trans s2) r2 e⟩
end
end DD

/-! DDL: comprehensions of two walks. -/
namespace DD
open PySem PySem.Spec PyProof.Rows L2 PySem.W
theorem wipe_at {σ : L2.St} {j : Nat} : ∀ {vs : List Nat}, (wipe σ vs)[j]? = if j ∈ vs then (σ[j]?).map (fun _ => none) else σ[j]?
  | [] => by simp [wipe]
  | v :: vs => by
    have ih := @wipe_at σ j vs
    unfold wipe
    by_cases e : v = j
    · subst e
      rw [if_pos List.mem_cons_self, List.getElem?_set]
      rw [if_pos rfl]
      by_cases hl : v < σ.length
      · rw [if_pos (by rw [wipe_length]; exact hl), List.getElem?_eq_getElem hl]; rfl
      · rw [if_neg (by rw [wipe_length]; exact hl), List.getElem?_eq_none (by omega)]; rfl
    · rw [List.getElem?_set_ne e, ih]
      by_cases m : j ∈ vs
      · rw [if_pos m, if_pos (List.mem_cons_of_mem _ m)]
      · rw [if_neg m, if_neg (fun z => (List.mem_cons.mp z).elim (fun z => e z.symm) m)]
theorem wipe_sub {σ : L2.St} {us vs : List Nat} (h : ∀ i ∈ us, i ∈ vs) : wipe (wipe σ us) vs = wipe σ vs := by
  apply List.ext_getElem?
  intro j
  rw [wipe_at, wipe_at, wipe_at]
  by_cases m : j ∈ vs
  · rw [if_pos m, if_pos m]
    by_cases u : j ∈ us
    · rw [if_pos u]; cases σ[j]? <;> rfl
    · rw [if_neg u]
  · rw [if_neg m, if_neg m, if_neg (fun u => m (h j u))]
theorem wipeR_at {σ : En} {j : Nat} : ∀ {vs : List Nat}, (wipeR σ vs)[j]? = if j ∈ vs then (σ[j]?).map (fun _ => none) else σ[j]?
  | [] => by simp [wipeR]
  | v :: vs => by
    have ih := @wipeR_at σ j vs
    unfold wipeR
    by_cases e : v = j
    · subst e
      rw [if_pos List.mem_cons_self, List.getElem?_set]
      rw [if_pos rfl]
      by_cases hl : v < σ.length
      · rw [if_pos (by rw [wipeR_length]; exact hl), List.getElem?_eq_getElem hl]; rfl
      · rw [if_neg (by rw [wipeR_length]; exact hl), List.getElem?_eq_none (by omega)]; rfl
    · rw [List.getElem?_set_ne e, ih]
      by_cases m : j ∈ vs
      · rw [if_pos m, if_pos (List.mem_cons_of_mem _ m)]
      · rw [if_neg m, if_neg (fun z => (List.mem_cons.mp z).elim (fun z => e z.symm) m)]
theorem wipeR_sub {σ : En} {us vs : List Nat} (h : ∀ i ∈ us, i ∈ vs) : wipeR (wipeR σ us) vs = wipeR σ vs := by
  apply List.ext_getElem?
  intro j
  rw [wipeR_at, wipeR_at, wipeR_at]
  by_cases m : j ∈ vs
  · rw [if_pos m, if_pos m]
    by_cases u : j ∈ us
    · rw [if_pos u]; cases σ[j]? <;> rfl
    · rw [if_neg u]
  · rw [if_neg m, if_neg m, if_neg (fun u => m (h j u))]

theorem s_lc2 {X : Cx} {BI : BoxI} {C : Ctx} {elt tge iter tge2 iter2 : Expr} {ifs ifs2 : List Expr} {scope : Scope} {own : List (Str × Nat)} {elt' : Ex} {tg' tg2' : Tg} {it' it2' : DD.It} {cs' cs2' : Es} {vs2 : List Nat} (hv : ∀ i ∈ tgS tg', i ∈ own.map (·.2)) (hv2 : ∀ i ∈ tgS tg2', i ∈ vs2) (hsub : ∀ i ∈ vs2, i ∈ own.map (·.2)) :
    ∀ σ H Q, rdE X.K BI C (.lc2 elt' (own.map (·.2)) tg' it' cs' vs2 tg2' it2' cs2') σ H Q → tLc2 (rdI X.K BI C it') (rdTg X.K BI tg') (rdC X.K BI C cs') (rdI X.K BI C it2') (rdTg X.K BI tg2') (rdC X.K BI C cs2') (rdE X.K BI C elt') (own.map (·.2)) vs2 σ H Q := by
  intro σ H Q ⟨Oe, F, bx, ρ, kd, r, e, post⟩
  refine ⟨Oe, F, bx, ρ, _, r, e, fun J xs ρ1 H1 e1 r1 w e DL hD => ?_⟩
  generalize hvs : own.map (·.2) = vs at *
  let fi : PyData → En → (Option PyData → En → Prop) → Prop := fun y ρ6 k3 => tgt tg2' y (wipeR ρ6 vs2) fun ρ7 => evc C cs2' ρ7 fun b ρ8 => if b = true then ev C elt' ρ8 fun v ρ9 => cap v fun d => k3 (some d) ρ9 else k3 none ρ8
  let fb : PyData → En → List PyData → (List PyData → En → Prop) → Prop := fun x ρ2 acc k2 => tgt tg' x (wipeR ρ2 vs) fun ρ3 => evc C cs' ρ3 fun b ρ4 => if b = true then itv C it2' ρ4 fun ys ρ5 => lcl fi ys ρ5 acc k2 else k2 acc ρ4
  let kf : List PyData → En → Prop := fun acc ρ6 => kd (.d (.list acc)) (back ρ1 ρ6 vs)
  have e : lcx fb xs ρ1 [] kf := e
  have nD : ¬ F DL := (r1.fresh hD).2
  have bxne : ∀ B C', bx = some (B, C') → DL ≠ B ∧ DL ≠ C' := fun B C' q => by
    obtain ⟨f1, f2, _⟩ := r1.bok B C' q
    exact ⟨fun z => nD (by rw [z]; exact f1), fun z => nD (by rw [z]; exact f2)⟩
  refine ⟨fun i m H2 => m = xs.length - i ∧ i ≤ xs.length ∧ ∃ ρ2 acc vacc, Ext F H1 H2 ∧ Rel X.K BI (fun b => Oe b ∨ b = DL) F bx (wipe σ vs) H2 (wipeR ρ2 vs) ∧ ρ2.length = ρ1.length ∧ H2 DL = some (.lst vacc) ∧ DdAll X.K (hid (off (fun b => Oe b ∨ b = DL) F) H2) vacc acc ∧
    lcx fb (xs.drop i) ρ2 acc kf, ⟨xs.length, by simp, Nat.zero_le _, ρ1, [], [], (Sub.new hD).ext, (r1.more hD).wiped vs, rfl, upd_same, .nil, e⟩, ?_⟩
  rintro i m H2 ⟨rfl, hi, ρ2, acc, vacc, x2, r2, l2, hD2, hacc, e⟩
  by_cases hlt : i < xs.length
  · right
    have hdrop : xs.drop i = xs[i] :: xs.drop (i + 1) := List.drop_eq_getElem_cons hlt
    rw [hdrop] at e
    refine ⟨w.go i H2 hlt (x2.mono fun _ => .inr), fun H3 => ∃ ρ3 acc vacc, Ext F H1 H3 ∧ Rel X.K BI (fun b => Oe b ∨ b = DL) F bx (wipe σ vs) H3 (wipeR ρ3 vs) ∧ ρ3.length = ρ1.length ∧ H3 DL = some (.lst vacc) ∧ DdAll X.K (hid (off (fun b => Oe b ∨ b = DL) F) H3) vacc acc ∧
      lcx fb (xs.drop (i + 1)) ρ3 acc kf, fun H' n => ⟨xs.length - (i + 1), by omega, rfl, hlt, n⟩, fun v H3 y => ?_⟩
    have offs : ∀ b, off (fun b => Oe b ∨ b = DL) F b → off Oe F b ∨ H1 b = none := fun b z => by
      rcases z with (z | z) | z
      · exact .inl (.inl z)
      · exact .inr (by rw [z]; exact hD)
      · exact .inl (.inr z)
    obtain ⟨s3, d, hd, dv⟩ := w.yld i H2 v H3 _ hlt (x2.mono fun _ => .inr) r2.trk offs y
    have ed : xs[i] = d := by
      have q := List.getElem?_eq_getElem hlt
      rw [hd] at q; cases q; rfl
    subst ed
    have r3 := r2.sub s3
    have e : tgt tg' xs[i] (wipeR ρ2 vs) fun ρ3 => evc C cs' ρ3 fun b ρ4 => if b = true then itv C it2' ρ4 fun ys ρ5 => lcl fi ys ρ5 acc fun acc' ρ' => lcx fb (xs.drop (i + 1)) ρ' acc' kf
        else lcx fb (xs.drop (i + 1)) ρ4 acc kf := e
    refine ⟨_, F, bx, _, xs[i], _, r3, dv, e, fun ρ3 σ3 r4 hw e => ⟨by rw [hw vs hv, wipe_wipe], ?_⟩⟩
    have hw3 : wipe σ3 vs = wipe σ vs := by rw [hw vs hv, wipe_wipe]
    refine ⟨_, F, bx, ρ3, _, r4, e, fun b ρ4 H4 e4 r5 e => ?_⟩
    have x4 : Ext F H1 H4 := (x2.trans s3.ext).trans e4
    have D4 : H4 DL = some (.lst vacc) := e4 DL _ (s3 DL _ hD2) nD
    have a4 : DdAll X.K (hid (off (fun b => Oe b ∨ b = DL) F) H4) vacc acc := dpall_sub (off_sub ((s3.ext).trans e4)) hacc
    have lenOf : ∀ {H' : Hp} {ρ' : En}, Rel X.K BI (fun b => Oe b ∨ b = DL) F bx σ3 H' ρ' → ρ'.length = ρ1.length := fun {H' ρ'} q => by rw [q.len, ← wipe_length σ3 vs, hw3, wipe_length, ← r1.len]
    cases b with
    | false => exact ⟨ρ4, acc, vacc, x4, by rw [← hw3]; exact r5.wiped vs, lenOf r5, D4, a4, e⟩
    | true =>
      refine ⟨_, F, bx, ρ4, _, r5, e, fun J1 ys ρ5 H5 e5 r6 w1 e => ?_⟩
      have x5 := x4.trans e5
      have D5 : H5 DL = some (.lst vacc) := e5 DL _ D4 nD
      have toO : ∀ b, (F b ∨ b = DL) → off (fun b => Oe b ∨ b = DL) F b := fun b z => z.elim .inr fun z => .inl (.inr z)
      have toF : ∀ b, F b → (F b ∨ b = DL) := fun b => .inl
      refine ⟨fun j k H => k = ys.length - j ∧ j ≤ ys.length ∧ ∃ ρ6 acc6 vacc6, Ext (fun b => F b ∨ b = DL) H5 H ∧ Rel X.K BI (fun b => Oe b ∨ b = DL) F bx (wipe σ3 vs2) H (wipeR ρ6 vs2) ∧ ρ6.length = ρ1.length ∧ H DL = some (.lst vacc6) ∧ DdAll X.K (hid (off (fun b => Oe b ∨ b = DL) F) H) vacc6 acc6 ∧
        lcl fi (ys.drop j) ρ6 acc6 fun acc' ρ' => lcx fb (xs.drop (i + 1)) ρ' acc' kf, ⟨ys.length, by simp, Nat.zero_le _, ρ5, acc, vacc, Ext.refl _ _, r6.wiped vs2, lenOf r6, D5, dpall_sub (off_sub e5) a4, e⟩, ?_⟩
      rintro j k H6 ⟨rfl, hj, ρ6, acc6, vacc6, x6, r7, l6, D6, a6, e⟩
      by_cases hjl : j < ys.length
      · right
        rw [List.drop_eq_getElem_cons hjl] at e
        refine ⟨w1.go j H6 hjl (x6.mono toO), fun H7 => ∃ ρ7 acc7 vacc7, Ext (fun b => F b ∨ b = DL) H5 H7 ∧ Rel X.K BI (fun b => Oe b ∨ b = DL) F bx (wipe σ3 vs2) H7 (wipeR ρ7 vs2) ∧ ρ7.length = ρ1.length ∧ H7 DL = some (.lst vacc7) ∧ DdAll X.K (hid (off (fun b => Oe b ∨ b = DL) F) H7) vacc7 acc7 ∧
          lcl fi (ys.drop (j + 1)) ρ7 acc7 fun acc' ρ' => lcx fb (xs.drop (i + 1)) ρ' acc' kf, fun H' n => ⟨ys.length - (j + 1), by omega, rfl, hjl, n⟩, fun u H7 y => ?_⟩
        obtain ⟨s7, d7, hd7, dv7⟩ := w1.yld j H6 u H7 _ hjl (x6.mono toO) r7.trk (fun b z => .inl z) y
        have ed7 : ys[j] = d7 := by
          have q := List.getElem?_eq_getElem hjl
          rw [hd7] at q; cases q; rfl
        subst ed7
        have r8 := r7.sub s7
        have e : tgt tg2' ys[j] (wipeR ρ6 vs2) fun ρ7 => evc C cs2' ρ7 fun b ρ8 => if b = true then ev C elt' ρ8 fun v ρ9 => cap v fun d => acc6.length < sizeLine ∧ lcl fi (ys.drop (j + 1)) ρ9 (acc6 ++ [d]) fun acc' ρ' => lcx fb (xs.drop (i + 1)) ρ' acc' kf
            else lcl fi (ys.drop (j + 1)) ρ8 acc6 fun acc' ρ' => lcx fb (xs.drop (i + 1)) ρ' acc' kf := e
        refine ⟨_, F, bx, _, ys[j], _, r8, dv7, e, fun ρ7 σ7 r9 hw7 e => ⟨by rw [hw7 vs2 hv2, wipe_wipe], ?_⟩⟩
        have hw8 : wipe σ7 vs2 = wipe σ3 vs2 := by rw [hw7 vs2 hv2, wipe_wipe]
        have lenI : ∀ {H' : Hp} {ρ' : En}, Rel X.K BI (fun b => Oe b ∨ b = DL) F bx σ7 H' ρ' → ρ'.length = ρ1.length := fun {H' ρ'} q => by rw [q.len, ← wipe_length σ7 vs2, hw8, wipe_length, ← wipe_length σ3 vs, hw3, wipe_length, ← r1.len]
        refine ⟨_, F, bx, ρ7, _, r9, e, fun b ρ8 H8 e8 r10 e => ?_⟩
        have x8 : Ext (fun b => F b ∨ b = DL) H5 H8 := (x6.trans s7.ext).trans (e8.mono toF)
        have D8 : H8 DL = some (.lst vacc6) := e8 DL _ (s7 DL _ D6) nD
        have a8 : DdAll X.K (hid (off (fun b => Oe b ∨ b = DL) F) H8) vacc6 acc6 := dpall_sub (off_sub ((s7.ext).trans e8)) a6
        cases b with
        | false => exact ⟨ρ8, acc6, vacc6, x8, by rw [← hw8]; exact r10.wiped vs2, lenI r10, D8, a8, e⟩
        | true =>
          refine ⟨_, F, bx, ρ8, _, r10, e, fun rv ρ9 z H9 e9 r11 o9 _ e => ?_⟩
          obtain ⟨d9, rfl, hd9, hlen, e⟩ := cap_dd o9 e
          have D9 : H9 DL = some (.lst vacc6) := e9 DL _ D8 nD
          have a9 : DdAll X.K (hid (off (fun b => Oe b ∨ b = DL) F) H9) vacc6 acc6 := dpall_sub (off_sub e9) a8
          have up : Sub (hid (off (fun b => Oe b ∨ b = DL) F) H9) (hid (off (fun b => Oe b ∨ b = DL) F) (upd H9 DL (.lst (vacc6 ++ [z])))) := fun b o q => by
            obtain ⟨n, q⟩ := hid_some.mp q
            refine hid_some.mpr ⟨n, ?_⟩
            rw [upd_ne (fun z => n (.inl (.inr z)))]
            exact q
          refine ⟨vacc6, D9, by rw [dpa_len a9]; exact hlen, ρ9, acc6 ++ [d9], vacc6 ++ [z], ?_, ?_, lenI r11, upd_same, dpa_append (dpall_sub up a9) (.cons (dp_sub up hd9) .nil), e⟩
          · exact fun b o q n => by
              rw [upd_ne fun z => n (.inr z)]
              exact x8.trans (e9.mono toF) b o q n
          · have q := r11.wiped vs2
            rw [hw8] at q
            exact q.poke (.inl (.inr rfl)) nD bxne
      · left
        have ej : j = ys.length := by omega
        subst ej
        rw [List.drop_of_length_le (Nat.le_refl _)] at e
        have q := r7.wiped vs
        rw [wipe_sub hsub, wipeR_sub hsub, hw3] at q
        exact ⟨w1.stop H6 (x6.mono toO), ρ6, acc6, vacc6, fun b o q n => x6 b o (x5 b o q n) (fun z => z.elim n (ne_of_none q hD)), q, l6, D6, a6, e⟩
  · left
    have ei : i = xs.length := by omega
    subst ei
    refine ⟨w.stop H2 (x2.mono fun _ => .inr), ?_⟩
    rw [List.drop_of_length_le (Nat.le_refl _)] at e
    have e : kd (.d (.list acc)) (back ρ1 ρ2 vs) := e
    have r3 : Rel X.K BI Oe F bx σ H2 (back ρ1 ρ2 vs) := by
      have r4 := r2.less
      refine r4.slots (by rw [back_len, l2, r1.len]) fun j val q => ?_
      rcases back_some q with ⟨h1, h2⟩ | ⟨h1, x, rfl, h2⟩
      · exact .inl ⟨wipeR_in h2 h1, (wipe_out h1).symm⟩
      · obtain ⟨v, h3, h4⟩ := r1.dat j x h2
        exact .inr ⟨x, v, rfl, h3, dp_sub (off_sub x2) h4⟩
    have hh : Sub (hid (off (fun b => Oe b ∨ b = DL) F) H2) (hid (off Oe F) H2) := hid_anti fun b z => z.elim (fun z => .inl (.inl z)) .inr
    refine post (.d (.list acc)) _ (.ref DL) H2 (e1.trans x2) r3 (.lst (hid_some.mpr ⟨fun z => r1.trk DL z hD, hD2⟩) (dpall_sub hh hacc)) (fun _ ds q => ?_) e
    cases q
    refine ⟨DL, vacc, rfl, none_back r1 e1 hD, hD2, hacc, r2.slots (by rw [back_len, l2, r1.len]) fun j val q => ?_⟩
    rcases back_some q with ⟨h1, h2⟩ | ⟨h1, x, rfl, h2⟩
    · exact .inl ⟨wipeR_in h2 h1, (wipe_out h1).symm⟩
    · obtain ⟨v, h3, h4⟩ := r1.dat j x h2
      refine .inr ⟨x, v, rfl, h3, dp_sub (sub_O x2 fun b z => ?_) h4⟩
      rcases z with (z | z) | z
      · exact .inl (.inl z)
      · exact .inr (by rw [z]; exact hD)
      · exact .inl (.inr z)
end DD

/-! DDR: t[::-1] of a tuple, of a list. -/
namespace HT
open PySem PyProof.Rows
section
open PySem.SeqAt
variable {prog : Program} {w : World} {A : Around} {E : Value → Shared → Prop} {s : Shared}
theorem sliceApplied_rev {sl : Addr} {vs : Value} {n : Nat} {Q : Int × Int × Nat → Shared → Prop} (hs : s.heap.IsSliceOf sl .none .none vs) (ps : IsPart vs (some (-1)))
    (h : Q ((n : Int) - 1, -1, n) s) : wpAny (model prog w) A (Builtin.Slice.sliceApplied (.ref sl) (pure (n : Int))) Q E s := by
  obtain ⟨os, hos, hcs, hds⟩ := id hs
  unfold Builtin.Slice.sliceApplied Builtin.Slice.sliceFields
  refine wpAny_bind (wpAny_bind (wpAny_field hos hds (x := .none) rfl (wpAny_bind (wpAny_field hos hds (x := .none) rfl (wpAny_bind (wpAny_field hos hds (x := vs) rfl (wpAny_pure ?_)))))))
  refine wpAny_bind (slicePart_ ps ?_)
  show wpAny _ _ (if ((-1 : Int) == 0) = true then _ else _) _ _ s
  rw [if_neg (by decide)]
  refine wpAny_bind (slicePart_none (wpAny_bind (slicePart_none (wpAny_bind (wpAny_pure ?_)))))
  have e : Builtin.Slice.sliceAdjust none none (-1) (n : Int) = ((n : Int) - 1, (-1 : Int)) := by
    unfold Builtin.Slice.sliceAdjust
    simp
  have e2 : Builtin.Slice.slicePlaces ((n : Int) - 1) (-1) (-1) = n := by
    unfold Builtin.Slice.slicePlaces
    have h1 : ¬ ((-1 : Int) > 0) := by decide
    simp only [h1, if_false]
    split
    · rw [show (- -1 : Int) = 1 by decide, Int.ediv_one]; omega
    · omega
  show wpAny _ _ (match Builtin.Slice.sliceAdjust none none (-1) (n : Int) with | (lo, hi) => pure (lo, (-1 : Int), Builtin.Slice.slicePlaces lo hi (-1))) _ _ s
  rw [e]
  show wpAny _ _ (pure ((n : Int) - 1, (-1 : Int), Builtin.Slice.slicePlaces ((n : Int) - 1) (-1) (-1))) _ _ s
  rw [e2]
  exact wpAny_pure h
theorem fm_congr {α β : Type} {f g : α → Option β} : ∀ {l : List α}, (∀ m ∈ l, f m = g m) → l.filterMap f = l.filterMap g
  | [], _ => rfl
  | a :: l, h => by
    rw [List.filterMap_cons, List.filterMap_cons, h a List.mem_cons_self, fm_congr (l := l) fun m hm => h m (List.mem_cons_of_mem _ hm)]
theorem pick_rev (xs : Array Value) : ((List.range xs.size).filterMap fun (m : Nat) => xs[(((xs.size : Int) - 1) + (m : Int) * (-1)).toNat]?).toArray = xs.toList.reverse.toArray := by
  rw [← PySem.W.krv_pick]
  unfold slicePick
  rw [PySem.W.krv_bounds]
  show _ = ((sliceRange ((xs.size : Int) - 1) (-1) (-1)).filterMap (xs[·]?)).toArray
  rw [PySem.W.krv_sliceRange, List.filterMap_map]
  congr 1
  refine fm_congr fun m hm => ?_
  have := List.mem_range.mp hm
  show xs[_]? = xs[xs.size - 1 - m]?
  congr 1
  omega
theorem getItem_tuple_rev {t sl : Addr} {items : Array Value} {vs : Value} {Q : Value → Shared → Prop} (ht : IsTup s.heap t items) (hs : s.heap.IsSliceOf sl .none .none vs) (ps : IsPart vs (some (-1)))
    (h : Q (.ref s.heap.objs.size) { s with heap := s.heap.push { cls := .type "tuple", data := .seq items.toList.reverse.toArray } })
    (hsz : items.size ≤ sizeLine) : wpAny (model prog w) A (getItem (.ref t) (.ref sl)) Q E s := by
  have htake : sizeOk (.seq items.toList.reverse.toArray) := by
    show items.toList.reverse.toArray.size ≤ sizeLine
    rw [List.size_toArray, List.length_reverse, Array.length_toList]
    exact hsz
  obtain ⟨os, hos, hcs, hds⟩ := id hs
  have hTs : s.TypeIs (.ref sl) "slice" := ⟨os, hos, hcs⟩
  unfold getItem
  try with_reducible refine wpAny_holding ?_
  first | refine wpAny_bind (wpAny_pure ?_) | skip
  refine wpAny_bind (wpAny_sequenceKey ht.typeIs (by decide) ?_)
  refine wpAny_bind (wpAny_callSpecial?_slot (name := Str.ofString "__getitem__") ht.typeIs PyProof.Rows.slot_tuple_getitem
    (wpAny_call_entry PyProof.Rows.slot_tuple_getitem ht.typeIs entry_tuple_getitem ?_ (args_tuple_getitem _ _)))
  show wpAny _ _ (Builtin.Tuple.tupleItemsOf (.ref t) >>= _) _ _ s
  refine wpAny_bind (tupleItemsOf_ ht ?_)
  refine wpAny_bind (wpAny_typeOf hTs ?_)
  rw [if_pos (by decide)]
  refine wpAny_bind (sliceApplied_rev hs ps ?_)
  have hno : ¬ ((((items.size : Int) - 1) == 0 && (-1 : Int) == 1 && items.size == items.size) = true) := by
    intro q
    rw [Bool.and_eq_true, Bool.and_eq_true] at q
    exact Bool.noConfusion (show false = true from q.1.2)
  show wpAny _ _ (if (((items.size : Int) - 1) == 0 && (-1 : Int) == 1 && items.size == items.size) = true then _ else _) _ _ s
  rw [if_neg hno, pick_rev]
  first
    | exact wpAny_bind (m := Builtin.Tuple.tupleExact _) (wpAny_newObj_type (wpAny_pure ⟨_, rfl, wpAny_pure h⟩) htake)
    | exact wpAny_bind (m := Builtin.Tuple.tupleExact _) (wpAny_newObj_type (wpAny_bind (wpAny_pure (wpAny_pure ⟨_, rfl, wpAny_pure h⟩))) htake)
    | exact wpAny_bind (wpAny_bind (m := Builtin.Tuple.tupleExact _) (wpAny_newObj_type (wpAny_pure (wpAny_pure ⟨_, rfl, wpAny_pure h⟩)) htake))
    | exact wpAny_bind (wpAny_bind (m := Builtin.Tuple.tupleExact _) (wpAny_newObj_type (wpAny_pure ⟨_, rfl, wpAny_pure h⟩) htake))
end
end HT
namespace DD
open PySem PySem.Spec PyProof.Rows L2 PySem.W
/-- x[::-1] of a list or a tuple -/
def tRev (K : PySem.W.Frag) (te : TE) : TE := fun σ H Q => te σ H fun x H1 => ∃ a xs, x = .ref a ∧ ((SqL K H1 a xs ∧ ∀ p, H1 p = none → Q (.ref p) (upd H1 p (.lst xs.reverse))) ∨ (SqT K H1 a xs ∧ ∀ p, H1 p = none → Q (.ref p) (upd H1 p (.tup xs.reverse))))
theorem pe_rev {X : Cx} {e : Expr} {te : TE} {k : Nat} {p1 p2 p3 pos : Pos} (he : PE X e te) : PE X (.Subscript e (.Slice none none (some (.UnaryOp .USub (.Constant (.int 1) k p1) p2)) p3) pos) (tRev X.K te) := by
  refine ⟨fun pins s σ H Q I h => ?_⟩
  refine Subscript_ (thn (he.run pins s σ H _ I h) fun v s1 ⟨x, H1, I1, r1, q1⟩ => ?_)
  obtain ⟨a, xs, ex, q⟩ := q1
  subst ex
  cases r1
  have hst : PO X (some (.UnaryOp .USub (.Constant (.int 1) k p1) p2)) (tPart (tUn (rU fun i => .int (-i)) (tC (.int 1)))) := po_some (pe_un un_neg pe_int)
  refine wpAny_Slice (thn (po_none.run pins s1 σ H1 (fun o H2 => o = none ∧ H2 = H1) I1 ⟨rfl, rfl⟩) fun vl s2 ⟨l, H2, I2, pl, el, e2⟩ => ?_)
  subst el e2
  refine thn (po_none.run pins s2 σ H2 (fun o H3 => o = none ∧ H3 = H2) I2 ⟨rfl, rfl⟩) fun vu s3 ⟨u, H3, I3, pu, eu, e3⟩ => ?_
  subst eu e3
  refine thn (hst.run pins s3 σ H3 (fun o H4 => o = some (-1) ∧ H4 = H3) I3 ⟨1, rfl, -1, rfl, rfl, rfl⟩) fun vs s4 ⟨o, H4, I4, ps, eo, e4⟩ => ?_
  subst eo e4
  have I5 : Inv X pins σ H4 { s4 with heap := s4.heap.push { cls := .type "slice", data := .fields #[vl, vu, vs] } } := I4.kept (t' := s4.toks) fun b ob q => Heap.get?_push_of_some _ q
  show wpAny (model X.prog X.w) X.A (subscriptTail e (.Slice none none (some (.UnaryOp .USub (.Constant (.int 1) k p1) p2)) p3) (.ref a) (.ref s4.heap.objs.size)) (EP X pins σ Q) X.xe { s4 with heap := s4.heap.push { cls := .type "slice", data := .fields #[vl, vu, vs] } }
  rcases q with ⟨hx, q⟩ | ⟨hx, q⟩
  · obtain ⟨its, r, ht, hz⟩ := I5.list hx
    have hlen := r.length
    refine tail_any (ops := [.ref a, .ref s4.heap.objs.size]) ht.isList.typeIs (PySem.slot_list_getitem.lookup) ?_ (by with_unfolding_all rfl)
    refine wpAny_getItem_list_slice ht.isList (Heap.IsSliceOf.new _ vl vu vs) pl pu ps (by decide) ?_ (by rw [List.size_toArray]; omega)
    rw [PySem.W.krv_pick]
    refine ⟨.ref _, _, I5.laid (t' := s4.toks) (o := .lst xs.reverse) (fun b ob q => Heap.get?_push_of_some _ q) (Nat.le_refl _) ?_, rfl, q _ (I5.hok.fresh (Nat.le_refl _))⟩
    exact ⟨by rw [List.length_reverse]; exact hz, _, 0, r.reverse, Heap.get?_push_size _ rfl⟩
  · obtain ⟨its, r, ht, hz⟩ := I5.tuple hx
    have hlen := r.length
    cases pl
    cases pu
    refine tail_any (ops := [.ref a, .ref s4.heap.objs.size]) ht.typeIs (PyProof.Rows.slot_tuple_getitem.lookup) ?_ (by with_unfolding_all rfl)
    refine HT.getItem_tuple_rev ht (Heap.IsSliceOf.new ..) ps ?_ (by rw [List.size_toArray]; omega)
    refine ⟨.ref _, _, I5.laid (t' := s4.toks) (o := .tup xs.reverse) (fun b ob q => Heap.get?_push_of_some _ q) (Nat.le_refl _) ?_, rfl, q _ (I5.hok.fresh (Nat.le_refl _))⟩
    exact ⟨by rw [List.length_reverse]; exact hz, _, r.reverse, IsTup.new _ _⟩
theorem s_rev {X : Cx} {BI : BoxI} {C : Ctx} {a : Expr} {a' : Ex} {k : Nat} {p1 p2 p3 pos : Pos} (ha : PE X a (rdE X.K BI C a')) : PE X (.Subscript a (.Slice none none (some (.UnaryOp .USub (.Constant (.int 1) k p1) p2)) p3) pos) (rdE X.K BI C (.rev a')) :=
  pe_imp (pe_rev ha) fun σ H Q ⟨Oe, F, bx, ρ, kd, r, e, post⟩ => by
    refine ⟨Oe, F, bx, ρ, _, r, e, fun x ρ1 v H1 e1 r1 o1 _ e => ?_⟩
    obtain ⟨dx, hx, e⟩ := bor_dc r1 o1 e
    cases hx with
    | lst h1 h2 => 
      exact ⟨_, _, rfl, .inl ⟨SqL.of h1, fun p hp => post (.d (.list _)) ρ1 _ _ (e1.trans (Sub.new hp).ext) (r1.sub (Sub.new hp)) (new_lst r1 hp (dpa_reverse h2)) (nofr rfl) e⟩⟩
    | tup h1 h2 => exact ⟨_, _, rfl, .inr ⟨sqt_sub hid_sub h1, fun p hp => post (.d (.tuple _)) ρ1 _ _ (e1.trans (Sub.new hp).ext) (r1.sub (Sub.new hp)) (new_tup r1 hp (dpa_reverse h2)) (nofr rfl) e⟩⟩
    | _ => exact e.elim
end DD

/-! DDI: more walks (a range with a step, enumerate, zip), list and tuple of a range. -/
namespace DD
open PySem PySem.Spec PyProof.Rows L2 PySem.W
theorem dpa_rng {K : PySem.W.Frag} {H : Hp} (a : Int) : ∀ l : List Nat, DdAll K H (l.map fun i => V.int (a + (i : Nat))) (l.map fun i => PyData.int (a + (i : Nat)))
  | [] => .nil
  | i :: l => .cons (.int _) (dpa_rng a l)
theorem dpa_rgV {K : PySem.W.Frag} {H : Hp} {a b : Int} : DdAll K H (rgV a b) (rngL a b) := dpa_rng a _
theorem rngL_length {a b : Int} : (rngL a b).length = (b - a).toNat := by unfold rngL; rw [List.length_map, List.length_range]
theorem wd_rngC {K : PySem.W.Frag} {Oe F : ASet} {H1 : Hp} {lo c : Int} {n : Nat} : WD K Oe F H1 (Itc lo c n) (rngC lo c n) := by
  have hl : (rngC lo c n).length = n := by unfold rngC; rw [List.length_map, List.length_range]
  refine ⟨fun i H h e => (show i < n by omega), fun H e => (show n ≤ _ by omega), fun i H x H' O' h e _ hO y => ?_⟩
  obtain ⟨rfl, rfl⟩ := y
  refine ⟨Sub.refl _, _, ?_, .int _⟩
  unfold rngC
  rw [List.getElem?_map, List.getElem?_range (by omega)]
  rfl
theorem fresh_tup {K : PySem.W.Frag} {O' : ASet} {H : Hp} {T : Addr} {vs : List V} {ds : List D} (hT : H T = none) (hO : ∀ b, O' b → H b ≠ none) (hd : DdAll K (hid O' H) vs ds) : Sub H (upd H T (.tup vs)) ∧ Dd K (hid O' (upd H T (.tup vs))) (.ref T) (.tuple ds) :=
  ⟨Sub.new hT, .tup (SqT.of (hid_some.mpr ⟨fun z => hO T z hT, upd_same⟩)) (dpall_sub (fun b o q => by
    obtain ⟨n, q⟩ := hid_some.mp q
    exact hid_some.mpr ⟨n, Sub.new hT b o q⟩) hd)⟩
theorem wd_enum {K : PySem.W.Frag} {Oe F : ASet} {H1 : Hp} {a : Addr} {vs : List V} {xs : List D} (h : hid (off Oe F) H1 a = some (.lst vs)) (hd : DdAll K (hid (off Oe F) H1) vs xs) : WD K Oe F H1 (Ite K a) (enumL xs) := by
  obtain ⟨nf, h0⟩ := hid_some.mp h
  have st : ∀ H, Ext (off Oe F) H1 H → SqL K H a vs := fun H e => SqL.of (e a _ h0 nf)
  have hl := dpa_len hd
  have hl2 : (enumL xs).length = xs.length := by unfold enumL; rw [List.length_map, List.length_zipIdx]
  refine ⟨fun i H hi e => ⟨vs, vs[i]'(by omega), st H e, List.getElem?_eq_getElem _⟩, fun H e => ⟨vs, st H e, by omega⟩, fun i H x H' O' hi e ht hO y => ?_⟩
  obtain ⟨T, x, rfl, hT, rfl, hx⟩ := y
  obtain ⟨d, h1, h2⟩ := dpa_getV hd (hx vs (st H e))
  obtain ⟨s, q⟩ := fresh_tup hT ht (.cons (.int (i : Nat)) (.cons (dp_sub (sub_P e hO) h2) .nil))
  refine ⟨s, _, ?_, q⟩
  unfold enumL
  rw [List.getElem?_map, List.getElem?_zipIdx, h1, Nat.zero_add]
  rfl
theorem zip_at {xs ys : List D} {i : Nat} {x y : D} (h1 : xs[i]? = some x) (h2 : ys[i]? = some y) : (zipL xs ys)[i]? = some (.tuple [x, y]) := by
  unfold zipL
  rw [List.getElem?_map, (List.getElem?_zip_eq_some (z := (x, y))).mpr ⟨h1, h2⟩]
  rfl
theorem wd_zip {K : PySem.W.Frag} {Oe F : ASet} {H1 : Hp} {a b : Addr} {vs ws : List V} {xs ys : List D} (h : hid (off Oe F) H1 a = some (.lst vs)) (hd : DdAll K (hid (off Oe F) H1) vs xs) (h' : hid (off Oe F) H1 b = some (.lst ws)) (hd' : DdAll K (hid (off Oe F) H1) ws ys) : WD K Oe F H1 (Itz K a b) (zipL xs ys) := by
  obtain ⟨nf, h0⟩ := hid_some.mp h
  obtain ⟨nf', h0'⟩ := hid_some.mp h'
  have st : ∀ H, Ext (off Oe F) H1 H → SqL K H a vs := fun H e => SqL.of (e a _ h0 nf)
  have st' : ∀ H, Ext (off Oe F) H1 H → SqL K H b ws := fun H e => SqL.of (e b _ h0' nf')
  have hl := dpa_len hd
  have hl' := dpa_len hd'
  have hz : (zipL xs ys).length = min xs.length ys.length := by unfold zipL; rw [List.length_map, List.length_zip]
  refine ⟨fun i H hi e => ⟨vs, ws, vs[i]'(by omega), ws[i]'(by omega), st H e, st' H e, List.getElem?_eq_getElem _, List.getElem?_eq_getElem _⟩, fun H e => ⟨vs, ws, st H e, st' H e, by omega⟩, fun i H x H' O' hi e ht hO y => ?_⟩
  obtain ⟨T, x, y, rfl, hT, rfl, hx, hy⟩ := y
  obtain ⟨d, h1, h2⟩ := dpa_getV hd (hx vs (st H e))
  obtain ⟨d', h1', h2'⟩ := dpa_getV hd' (hy ws (st' H e))
  obtain ⟨s, q⟩ := fresh_tup hT ht (.cons (dp_sub (sub_P e hO) h2) (.cons (dp_sub (sub_P e hO) h2') .nil))
  exact ⟨s, _, zip_at h1 h1', q⟩
theorem wd_zipT {K : PySem.W.Frag} {Oe F : ASet} {H1 : Hp} {a b : Addr} {vs ws : List V} {xs ys : List D} (h : SqT K (hid (off Oe F) H1) a vs) (hd : DdAll K (hid (off Oe F) H1) vs xs) (h' : SqT K (hid (off Oe F) H1) b ws) (hd' : DdAll K (hid (off Oe F) H1) ws ys) : WD K Oe F H1 (RZ.ItzT K a b) (zipL xs ys) := by
  have up : ∀ H, Ext (off Oe F) H1 H → Sub (hid (off Oe F) H1) H := fun H e b o q => by
    obtain ⟨n, q⟩ := hid_some.mp q
    exact e b o q n
  have st : ∀ H, Ext (off Oe F) H1 H → SqT K H a vs := fun H e => sqt_sub (up H e) h
  have st' : ∀ H, Ext (off Oe F) H1 H → SqT K H b ws := fun H e => sqt_sub (up H e) h'
  have hl := dpa_len hd
  have hl' := dpa_len hd'
  have hz : (zipL xs ys).length = min xs.length ys.length := by unfold zipL; rw [List.length_map, List.length_zip]
  refine ⟨fun i H hi e => ⟨vs, ws, vs[i]'(by omega), ws[i]'(by omega), st H e, st' H e, List.getElem?_eq_getElem _, List.getElem?_eq_getElem _⟩, fun H e => ⟨vs, ws, st H e, st' H e, by omega⟩, fun i H x H' O' hi e ht hO y => ?_⟩
  obtain ⟨T, x, y, rfl, hT, rfl, hx, hy⟩ := y
  obtain ⟨d, h1, h2⟩ := dpa_getV hd (hx vs (st H e))
  obtain ⟨d', h1', h2'⟩ := dpa_getV hd' (hy ws (st' H e))
  obtain ⟨s, q⟩ := fresh_tup hT ht (.cons (dp_sub (sub_P e hO) h2) (.cons (dp_sub (sub_P e hO) h2') .nil))
  exact ⟨s, _, zip_at h1 h1', q⟩
section
variable {X : Cx} {BI : BoxI} {C : Ctx} {tg a b c : Expr} {a' b' c' : Ex} {pos pos' p : Pos}
theorem s_rng3 (hg : Gl X "range") (hm : X.mg "range" = none) (ha : PE X a (rdE X.K BI C a')) (hb : PE X b (rdE X.K BI C b')) (hc : PE X c (rdE X.K BI C c')) (n1 : starEach [a, b, c] X.env = (false, eval a X.env) :: starEach [b, c] X.env ∧ starEach [b, c] X.env = (false, eval b X.env) :: starEach [c] X.env ∧ starEach [c] X.env = [(false, eval c X.env)]) :
    PI X tg (.Call (.Name "range" p) [a, b, c] [] pos) (rdI X.K BI C (.rng3 a' b' c')) := by
  obtain ⟨s1, s2, s3⟩ := n1
  refine pi_imp (pi_range3 hg hm (pa_cons ha (pa_cons hb (pa_cons hc pa_nil s3) s2) s1) s1 (by rw [s2, s3]; rfl)) fun σ H R ⟨Oe, F, bx, ρ, kd, r, e, post⟩ => ?_
  refine ⟨Oe, F, bx, ρ, _, r, e, fun x ρ1 v H1 e1 r1 o1 _ e => ?_⟩
  refine ⟨Oe, F, bx, ρ1, _, r1, e, fun y ρ2 u H2 e2 r2 o2 _ e => ?_⟩
  refine ⟨Oe, F, bx, ρ2, _, r2, e, fun z ρ3 w H3 e3 r3 o3 _ e => ?_⟩
  obtain ⟨dx, hx, e⟩ := bor_dc r3 (rv_ext o1 (e2.trans e3)) e
  obtain ⟨dy, hy, e⟩ := bor_dc r3 (rv_ext o2 e3) e
  obtain ⟨dz, hz, n, m, s, t, rfl, rfl, rfl, hR, e⟩ := bor_dc r3 o3 e
  cases hx; cases hy; cases hz
  exact ⟨n, m, s, t, rfl, hR, post _ _ ρ3 H3 ((e1.trans e2).trans e3) r3 wd_rngC e⟩
theorem s_zip {elts : List Expr} {kk : Nat} {tpos : Pos} (hg : Gl X "zip") (hm : X.mg "zip" = none) (ha : PE X a (rdE X.K BI C a')) (hb : PE X b (rdE X.K BI C b')) (hs : starEach [a, b] X.env = (false, eval a X.env) :: starEach [b] X.env) (hs2 : starEach [b] X.env = [(false, eval b X.env)]) :
    PI X (.Tuple elts kk tpos) (.Call (.Name "zip" p) [a, b] [] pos) (rdI X.K BI C (.zip a' b')) :=
  pi_imp (RZ.pi_zipA hg hm (pa_cons ha (pa_cons hb pa_nil hs2) hs) hs (by rw [hs2]; rfl)) fun σ H R ⟨Oe, F, bx, ρ, kd, r, e, post⟩ => by
    refine ⟨Oe, F, bx, ρ, _, r, e, fun x ρ1 v H1 e1 r1 o1 _ e => ?_⟩
    refine ⟨Oe, F, bx, ρ1, _, r1, e, fun y ρ2 u H2 e2 r2 o2 _ e => ?_⟩
    obtain ⟨d, rfl, hd, e⟩ := cap_dd (rv_ext o1 e2) e
    obtain ⟨d2, rfl, hd2, e⟩ := cap_dd o2 e
    have ee := e1.trans e2
    cases hd with
    | lst h1 h2 => cases hd2 with
      | lst h3 h4 => exact ⟨_, _, _, _, rfl, .inl ⟨SqL.of (hid_some.mp h1).2, SqL.of (hid_some.mp h3).2, post _ _ ρ2 H2 ee r2 (wd_zip h1 h2 h3 h4) e⟩⟩
      | _ => exact False.elim e
    | tup h1 h2 => cases hd2 with
      | tup h3 h4 => exact ⟨_, _, _, _, rfl, .inr ⟨sqt_sub hid_sub h1, sqt_sub hid_sub h3, post _ _ ρ2 H2 ee r2 (wd_zipT h1 h2 h3 h4) e⟩⟩
      | _ => exact False.elim e
    | _ => exact False.elim e
theorem s_lst1 {q : Pos} (hc : X.calm = true) (hg : Gl X "list") (hm : X.mg "list" = none) (hg2 : Gl X "range") (hm2 : X.mg "range" = none) (ha : PE X a (rdE X.K BI C a')) (hs : starEach [a] X.env = [(false, eval a X.env)]) : PE X (.Call (.Name "list" p) [.Call (.Name "range" q) [a] [] pos] [] pos') (rdE X.K BI C (.listI (.rng1 a'))) :=
  pe_imp (pe_listRg hc hg hm (prg_1 hg2 hm2 ha hs) rfl) fun σ H Q ⟨Oe, F, bx, ρ, kd, r, e, post⟩ => by
    refine ⟨Oe, F, bx, ρ, _, r, e, fun x ρ1 v H1 e1 r1 o1 _ e => ?_⟩
    obtain ⟨dx, hx, n, rfl, b1, b2, e⟩ := bor_dc r1 o1 e
    cases hx
    rw [rngL_length] at b2
    exact ⟨n, rfl, ⟨by omega, by omega, b1.1, b1.2, b2⟩, fun q hq => post (.d (.list (rngL 0 n))) ρ1 _ _ (e1.trans (Sub.new hq).ext) (r1.sub (Sub.new hq)) (new_lst r1 hq dpa_rgV) (fun _ => fresh_lst r1 e1 hq dpa_rgV) e⟩
theorem s_lst2 {q : Pos} (hc : X.calm = true) (hg : Gl X "list") (hm : X.mg "list" = none) (hg2 : Gl X "range") (hm2 : X.mg "range" = none) (ha : PE X a (rdE X.K BI C a')) (hb : PE X b (rdE X.K BI C b')) (hs : starEach [a, b] X.env = (false, eval a X.env) :: starEach [b] X.env) (hs2 : starEach [b] X.env = [(false, eval b X.env)]) : PE X (.Call (.Name "list" p) [.Call (.Name "range" q) [a, b] [] pos] [] pos') (rdE X.K BI C (.listI (.rng2 a' b'))) :=
  pe_imp (pe_listRg hc hg hm (prg_2 hg2 hm2 ha hb hs hs2 (by rw [hs2]; rfl)) rfl) fun σ H Q ⟨Oe, F, bx, ρ, kd, r, e, post⟩ => by
    refine ⟨Oe, F, bx, ρ, _, r, e, fun x ρ1 v H1 e1 r1 o1 _ e => ?_⟩
    refine ⟨Oe, F, bx, ρ1, _, r1, e, fun y ρ2 u H2 e2 r2 o2 _ e => ?_⟩
    obtain ⟨dx, hx, e⟩ := bor_dc r2 (rv_ext o1 e2) e
    obtain ⟨dy, hy, n, m, rfl, rfl, b1, b2, e⟩ := bor_dc r2 o2 e
    cases hx; cases hy
    rw [rngL_length] at b2
    have ee := e1.trans e2
    exact ⟨n, m, rfl, rfl, ⟨b1.1, b1.2.1, b1.2.2.1, b1.2.2.2, b2⟩, fun q hq => post (.d (.list (rngL n m))) ρ2 _ _ (ee.trans (Sub.new hq).ext) (r2.sub (Sub.new hq)) (new_lst r2 hq dpa_rgV) (fun _ => fresh_lst r2 ee hq dpa_rgV) e⟩
theorem s_tup1 {q : Pos} (hc : X.calm = true) (hg : Gl X "tuple") (hm : X.mg "tuple" = none) (hg2 : Gl X "range") (hm2 : X.mg "range" = none) (ha : PE X a (rdE X.K BI C a')) (hs : starEach [a] X.env = [(false, eval a X.env)]) : PE X (.Call (.Name "tuple" p) [.Call (.Name "range" q) [a] [] pos] [] pos') (rdE X.K BI C (.tupI (.rng1 a'))) :=
  pe_imp (pe_tupRg hc hg hm (prg_1 hg2 hm2 ha hs) rfl) fun σ H Q ⟨Oe, F, bx, ρ, kd, r, e, post⟩ => by
    refine ⟨Oe, F, bx, ρ, _, r, e, fun x ρ1 v H1 e1 r1 o1 _ e => ?_⟩
    obtain ⟨dx, hx, n, rfl, b1, b2, e⟩ := bor_dc r1 o1 e
    cases hx
    rw [rngL_length] at b2
    exact ⟨n, rfl, ⟨by omega, by omega, b1.1, b1.2, b2⟩, fun q hq => post (.d (.tuple (rngL 0 n))) ρ1 _ _ (e1.trans (Sub.new hq).ext) (r1.sub (Sub.new hq)) (new_tup r1 hq dpa_rgV) (nofr rfl) e⟩
theorem s_tup2 {q : Pos} (hc : X.calm = true) (hg : Gl X "tuple") (hm : X.mg "tuple" = none) (hg2 : Gl X "range") (hm2 : X.mg "range" = none) (ha : PE X a (rdE X.K BI C a')) (hb : PE X b (rdE X.K BI C b')) (hs : starEach [a, b] X.env = (false, eval a X.env) :: starEach [b] X.env) (hs2 : starEach [b] X.env = [(false, eval b X.env)]) : PE X (.Call (.Name "tuple" p) [.Call (.Name "range" q) [a, b] [] pos] [] pos') (rdE X.K BI C (.tupI (.rng2 a' b'))) :=
  pe_imp (pe_tupRg hc hg hm (prg_2 hg2 hm2 ha hb hs hs2 (by rw [hs2]; rfl)) rfl) fun σ H Q ⟨Oe, F, bx, ρ, kd, r, e, post⟩ => by
    refine ⟨Oe, F, bx, ρ, _, r, e, fun x ρ1 v H1 e1 r1 o1 _ e => ?_⟩
    refine ⟨Oe, F, bx, ρ1, _, r1, e, fun y ρ2 u H2 e2 r2 o2 _ e => ?_⟩
    obtain ⟨dx, hx, e⟩ := bor_dc r2 (rv_ext o1 e2) e
    obtain ⟨dy, hy, n, m, rfl, rfl, b1, b2, e⟩ := bor_dc r2 o2 e
    cases hx; cases hy
    rw [rngL_length] at b2
    have ee := e1.trans e2
    exact ⟨n, m, rfl, rfl, ⟨b1.1, b1.2.1, b1.2.2.1, b1.2.2.2, b2⟩, fun q hq => post (.d (.tuple (rngL n m))) ρ2 _ _ (ee.trans (Sub.new hq).ext) (r2.sub (Sub.new hq)) (new_tup r2 hq dpa_rgV) (nofr rfl) e⟩
theorem strs_dd {K : PySem.W.Frag} {H : Hp} : ∀ {ks : List Str} {vs : List V}, DdAll K H vs (ks.map .str) → vs = ks.map V.str
  | [], _, .nil => rfl
  | k :: ks, _, .cons h t => by cases h; rw [List.map_cons, strs_dd t]
theorem ints_dd {K : PySem.W.Frag} {H : Hp} : ∀ {ks : List Int} {vs : List V}, DdAll K H vs (ks.map .int) → vs = ks.map V.int
  | [], _, .nil => rfl
  | k :: ks, _, .cons h t => by cases h; rw [List.map_cons, ints_dd t]
theorem dd_strs {K : PySem.W.Frag} {H : Hp} : ∀ ks : List Str, DdAll K H (ks.map V.str) (ks.map .str)
  | [] => .nil
  | k :: ks => .cons (.str k) (dd_strs ks)
theorem dd_ints {K : PySem.W.Frag} {H : Hp} : ∀ ks : List Int, DdAll K H (ks.map V.int) (ks.map .int)
  | [] => .nil
  | k :: ks => .cons (.int k) (dd_ints ks)
theorem s_sset {q : Pos} (hc : X.calm = true) (hu : X.A.units + 128 < cLine) (hg : Gl X "sorted") (hm : X.mg "sorted" = none) (hg2 : Gl X "set") (hm2 : X.mg "set" = none) (ha : PE X a (rdE X.K BI C a')) (hs : starEach [a] X.env = [(false, eval a X.env)]) :
    PE X (.Call (.Name "sorted" p) [.Call (.Name "set" q) [a] [] pos] [] pos') (rdE X.K BI C (.sset a')) :=
  pe_imp (SG.pe_sset hc hu hg hm hg2 hm2 ha hs) fun σ H Q ⟨Oe, F, bx, ρ, kd, r, e, post⟩ => by
    refine ⟨Oe, F, bx, ρ, _, r, e, fun x ρ1 v H1 e1 r1 o1 _ e => ?_⟩
    obtain ⟨dx, hx, e⟩ := bor_dc r1 o1 e
    cases hx with
    | lst h1 h2 =>
      obtain ⟨hl, e⟩ := e
      refine ⟨_, _, rfl, .inl (SqL.of h1), by rw [dpa_len h2]; exact hl, ?_⟩
      rcases e with ⟨ks, rfl, e⟩ | ⟨ks, rfl, e⟩
      · exact .inl ⟨ks, strs_dd h2, fun bs p ho hp => post (.d (.list _)) ρ1 _ _ (e1.trans (Sub.new hp).ext) (r1.sub (Sub.new hp)) (new_lst r1 hp (dd_strs bs)) (fun _ => fresh_lst r1 e1 hp (dd_strs bs)) (e bs ho)⟩
      · exact .inr ⟨ks, ints_dd h2, fun bs p ho hp => post (.d (.list _)) ρ1 _ _ (e1.trans (Sub.new hp).ext) (r1.sub (Sub.new hp)) (new_lst r1 hp (dd_ints bs)) (fun _ => fresh_lst r1 e1 hp (dd_ints bs)) (e bs ho)⟩
    | tup h1 h2 =>
      obtain ⟨hl, e⟩ := e
      refine ⟨_, _, rfl, .inr (sqt_sub hid_sub h1), by rw [dpa_len h2]; exact hl, ?_⟩
      rcases e with ⟨ks, rfl, e⟩ | ⟨ks, rfl, e⟩
      · exact .inl ⟨ks, strs_dd h2, fun bs p ho hp => post (.d (.list _)) ρ1 _ _ (e1.trans (Sub.new hp).ext) (r1.sub (Sub.new hp)) (new_lst r1 hp (dd_strs bs)) (fun _ => fresh_lst r1 e1 hp (dd_strs bs)) (e bs ho)⟩
      · exact .inr ⟨ks, ints_dd h2, fun bs p ho hp => post (.d (.list _)) ρ1 _ _ (e1.trans (Sub.new hp).ext) (r1.sub (Sub.new hp)) (new_lst r1 hp (dd_ints bs)) (fun _ => fresh_lst r1 e1 hp (dd_ints bs)) (e bs ho)⟩
    | _ => exact False.elim e
end
end DD

/-! DDE: enumerate(tuple). -/
namespace DD
open PySem PySem.Spec PyProof.Rows L2 PySem.W
theorem new_enum1 {v : Value} {o : Obj} {H : Heap → Prop} (B : Begins v o H) :
    Meets (Builtin.«enumerate.__new__» ⟨[.type "enumerate", v], []⟩) (fun _ R s => H s.heap ∧
      R (.ok (.ret (.ref (s.heap.push o).objs.size))) { s with heap := (s.heap.push o).push { cls := .type "enumerate", data := .fields #[.none, .bool false, .ref s.heap.objs.size, rawInt 0, .none, .none] } }) :=
  .of_wp fun prog w A R s h => by
    obtain ⟨hp, g, d, tk, os⟩ := s; obtain ⟨h1, h⟩ := h
    have hsub := sub_enumerate
    have q1 : ∀ {A' : Around} {E : Value → Shared → Prop} {Q : Value → Shared → Prop}, Q (.ref hp.objs.size) ⟨hp.push o, g, d, tk, os⟩ → wpAny (model prog w) A' (pyIter v) Q E ⟨hp, g, d, tk, os⟩ :=
      fun q => B.iter prog w _ _ ⟨hp, g, d, tk, os⟩ _ h1 q
    wp_walk using q1
    refine wpAny_stack_any fun st => wpAny_pure ?_
    split
    · rename_i c _ _ _ _ _
      cases (c == Value.type "enumerate")
      · wp_walk using q1
        exact ⟨_, rfl, h⟩
      · wp_walk using q1
        exact ⟨_, rfl, h⟩
    · wp_walk using q1
      exact ⟨_, rfl, h⟩
section
variable {prog : Program} {w : World} {A : Around} {E : Value → Shared → Prop} {s : Shared}
theorem call_enum1 {v : Value} {o : Obj} {H : Heap → Prop} {Q : Value → Shared → Prop} (B : Begins v o H) (h1 : H s.heap)
    (h : ∀ h', IsEnum h' (s.heap.objs.size + 1) s.heap.objs.size 0 .none → h'.get? s.heap.objs.size = some o → h'.objs.size = s.heap.objs.size + 2 →
      (∀ b o, s.heap.get? b = some o → h'.get? b = some o) → Q (.ref (s.heap.objs.size + 1)) { s with heap := h' }) :
    wpAny (model prog w) A (call (.type "enumerate") [v]) Q E s := by
  refine callType_new F.called_enumerate (by decide) (F.typeCall_enumerate_1 _) (F.newCall_enumerate_1 _) (fun obj => F.args_object_init_2 obj _) F.entry_enumerate_new
    (new_enum1 B) ⟨h1, ?_⟩
  have hz : (s.heap.push o).objs.size = s.heap.objs.size + 1 := Heap.size_push ..
  show _ ∧ _
  rw [hz]
  have he : IsEnum ((s.heap.push o).push { cls := .type "enumerate", data := .fields #[.none, .bool false, .ref s.heap.objs.size, rawInt 0, .none, .none] }) (s.heap.objs.size + 1) s.heap.objs.size 0 .none := by
    have := Heap.get?_push_size (s.heap.push o) (o := { cls := .type "enumerate", data := .fields #[.none, .bool false, .ref s.heap.objs.size, rawInt 0, .none, .none] }) rfl
    rw [hz] at this; exact this
  exact ⟨⟨_, he, rfl⟩, h _ he (Heap.get?_push_of_some _ (Heap.get?_push_size _ B.free)) (by rw [Heap.size_push, hz]) fun b o x => Heap.get?_push_of_some _ (Heap.get?_push_of_some _ x)⟩
theorem next_enumT_end {e it t : Addr} {items : Array Value} {j : Nat} {i : Int} {old : Value} {Q : Option Value → Shared → Prop} (hh : A.handled = none)
    (he : IsEnum s.heap e it i old) (hit : s.heap.IsTupleIter it t j) (ht : s.heap.IsTuple t items) (hx : items[j]? = none)
    (hQ : ∀ h', Heap.ExtBut it s.heap h' → Q none { s with heap := h' }) : wpAny (model prog w) A (pyNext (.ref e)) Q E s := by
  have hT : s.TypeIs (.ref e) "enumerate" := ⟨_, he, rfl⟩
  unfold pyNext
  refine wpAny_bind (wpAny_attempt (wpAny_callSpecial?_slot (name := Str.ofString "__next__") hT F.slot_enumerate_next
    (wpAny_call_entry F.slot_enumerate_next hT F.entry_enumerate_next ?_ (F.args_enumerate_next_1 _))))
  show wpAny _ _ (field (.ref e) 2 >>= _) _ _ _
  refine wpAny_bind (wpAny_field he rfl (x := .ref it) rfl ?_)
  refine wpAny_bind (wpAny_nextOf_tuple_end (by simp [hh]) hit ht hx fun h' x he' hx' => ?_)
  obtain ⟨o, ho, hc⟩ := hx'
  refine wpAny_bind (wpAny_isInstance (T := "StopIteration") (b := true) ⟨o, ho, hc⟩ isSubtype_stop ?_)
  exact wpAny_pure (hQ _ he')
end
/-- the tuple at a, each item in a new pair -/
def IteT (K : PySem.W.Frag) (a : Addr) : L2.It :=
  ⟨fun i H => ∃ (xs : List V) (x : V), SqT K H a xs ∧ xs[i]? = some x, fun i H v H' => ∃ T x, v = .ref T ∧ H T = none ∧ H' = upd H T (.tup [.int (i : Nat), x]) ∧ ∀ xs, SqT K H a xs → xs[i]? = some x, fun i H => ∃ xs : List V, SqT K H a xs ∧ xs.length ≤ i⟩
theorem turn_enumT {P : Program} {w : World} {K : PySem.W.Frag} {elts : List Expr} {kk : Nat} {tpos : Pos} (a e it : Addr) :
    Turn P w K (.Tuple elts kk tpos) (IteT K a) [e, it] e (fun i h => (∃ old, IsEnum h e it ((i : Nat) : Int) old) ∧ h.IsTupleIter it a i ∧ e ≠ it ∧ e ≠ a ∧ a ≠ it) where
  mem := by simp
  obj := fun i h st b hb => by
    obtain ⟨⟨old, he⟩, ⟨o, ho, hc, hd⟩, _⟩ := st
    have e' : b = e ∨ b = it := by simpa using hb
    rcases e' with z | z
    · rw [z]; exact ⟨_, he, fun v q => nomatch q⟩
    · rw [z]; exact ⟨o, ho, fun v q => by rw [hd] at q; cases q⟩
  keep := fun i h h' st k => let ⟨⟨old, he⟩, hi, hne⟩ := st; ⟨⟨old, k e (by simp) _ he⟩, hi.at fun o q => k it (by simp) o q, hne⟩
  item := by
    intro X hP hw hK hc i pins s σ H E I hf st hg
    subst hP hw hK
    obtain ⟨⟨old, he⟩, hit, hne, hea, hai⟩ := st
    obtain ⟨xs, x, hq, hx⟩ := hg
    obtain ⟨its, rv, p, hz⟩ := I.tuple hq
    obtain ⟨u, hu, ru⟩ := rv.get hx
    have hel : e < s.heap.objs.size := Heap.lt_size he
    have hil : it < s.heap.objs.size := by obtain ⟨_, q, _⟩ := hit; exact Heap.lt_size q
    have hlt : i < its.toArray.size := by simpa using (List.getElem?_eq_some_iff.mp hu).1
    refine wpAny_pyNext_enum_itemD (Draws.tuple (by simp [I.ok.hd hc]) it a hai its.toArray) he ⟨hit, p⟩ hlt hne (by simp [hne, hea]) fun u' h' tk hP ho hst hT hsz hk => ?_
    have eu : u' = u := by
      have hP : its.toArray[i]? = some u' := hP
      have : its[i]? = some u' := by simpa using hP
      rw [hu] at this; cases this; rfl
    subst eu
    refine ⟨_, rfl, wpAny_letOwnedTupleGo_enum (s := { s with heap := h', toks := tk + 1 }) ho fun h'' he' sb => ?_⟩
    have hT2 : h''.get? s.heap.objs.size = some { cls := .type "tuple", data := .seq #[.int i tk, u'] } := (sb.2 _ (Nat.ne_of_gt hel)).trans hT
    have new : ObjOk X.prog X.w (upd H s.heap.objs.size (.tup [.int (i : Nat), x])) h'' s.heap.objs.size (.tup [.int (i : Nat), x]) :=
      ⟨by show 2 ≤ sizeLine; decide, [.int i tk, u'], .cons ⟨_, rfl⟩ (.cons ru .nil), ⟨_, hT2, rfl, _, rfl⟩⟩
    have I1 : Inv X pins σ (upd H s.heap.objs.size (.tup [.int (i : Nat), x])) { s with heap := h'', toks := tk + 1 } :=
      I.turnedNew (ch := [e, it]) (fun b ob hb q => (sb.2 b (fun z => hb (by simp [z]))).trans (hk b ob (fun z => hb (by simp [z])) (fun z => hb (by simp [z])) q)) hf (Nat.le_refl _) new
    refine ⟨.ref s.heap.objs.size, _, I1, rfl, ⟨_, x, rfl, I.hok.fresh (Nat.le_refl _), rfl, fun ys hy => by rw [I.tuple_inj hy hq]; exact hx⟩, ⟨⟨u', ?_⟩, hst.1.at fun o q => (sb.2 it (Ne.symm hne)).trans q, hne, hea, hai⟩, fun b hb => ?_⟩
    · have e1 : ((i + 1 : Nat) : Int) = (i : Int) + 1 := by omega
      rw [e1]; exact he'
    · have hb' : b < s.heap.objs.size := by
        have e' : b = e ∨ b = it := by simpa using hb
        rcases e' with z | z
        · rw [z]; exact hel
        · rw [z]; exact hil
      rw [upd_ne (Nat.ne_of_lt hb')]
      exact (hf b hb).1
  done := by
    intro X hP hw hK hc i pins s σ H E I hf st hg
    subst hP hw hK
    obtain ⟨⟨old, he⟩, hit, hne, hea, hai⟩ := st
    obtain ⟨xs, hq, hx⟩ := hg
    obtain ⟨its, rv, p, hz⟩ := I.tuple hq
    obtain ⟨f0, f1, f2, f3, f4, f5⟩ := hf it (by simp)
    have hl := rv.length
    exact next_enumT_end (I.ok.hd hc) he hit p (by simp; omega) fun h' eb => ⟨rfl, I.turned (t' := s.toks) (fun b o hb q => eb b o hb q) f0 f1 f3 f4 f5⟩
  self := fun A i s Q E st h => let ⟨⟨_, he⟩, _⟩ := st; wpAny_pyIter_enum he h
def iEnumA (K : PySem.W.Frag) (ta : TA) : TI := fun σ H R => ta σ H fun vs H1 => ∃ a xs, vs = [.ref a] ∧ ((SqL K H1 a xs ∧ R (Ite K a) H1) ∨ (SqT K H1 a xs ∧ R (IteT K a) H1))
theorem pi_enumA {X : Cx} {e : Expr} {ta : TA} {p pos tpos : Pos} {elts : List Expr} {kk : Nat} (hg : Gl X "enumerate") (hm : X.mg "enumerate" = none) (ha : PA X [e] ta) (hs : starEach [e] X.env = [(false, eval e X.env)] := by rfl) :
    PI X (.Tuple elts kk tpos) (.Call (.Name "enumerate" p) [e] [] pos) (iEnumA X.K ta) := by
  refine ⟨fun pins s σ H R I h => ?_⟩
  refine Call_ (ld_blt I hg hm boot_enumerate (PyProof.Rows.callWith_type1 (thn (ha.run pos pins s σ H _ I h) fun us s1 ⟨vs, H1, I1, r1, q1⟩ => ?_) hs rfl))
  obtain ⟨a, xs, ex, q⟩ := q1
  subst ex
  cases r1 with
  | cons r rr =>
    cases rr
    cases r
    rcases q with ⟨hq, q⟩ | ⟨hq, q⟩
    · obtain ⟨its, rv, p', hz⟩ := I1.list hq
      refine call_enumerate_list p'.isList fun h' he hit hsz hk => wpAny_pyIter_enum he ?_
      have I2 : Inv X pins σ H1 { s1 with heap := h' } := I1.kept (t' := s1.toks) hk
      refine ⟨s1.heap.objs.size + 1, [s1.heap.objs.size + 1, s1.heap.objs.size], _, _, H1, rfl, I2, turn_enum a (s1.heap.objs.size + 1) s1.heap.objs.size, ⟨⟨.none, he⟩, hit, Nat.succ_ne_self _⟩, fun b hb => ?_, q⟩
      have e' : b = s1.heap.objs.size + 1 ∨ b = s1.heap.objs.size := by simpa using hb
      have hle : s1.heap.objs.size ≤ b := by
        rcases e' with z | z
        · rw [z]; exact Nat.le_add_right _ _
        · rw [z]; exact Nat.le_refl _
      exact I1.fpOk hle (I1.hok.fresh hle)
    · obtain ⟨its, rv, p', hz⟩ := I1.tuple hq
      have hal : a < s1.heap.objs.size := by obtain ⟨o, ho, _⟩ := p'; exact Heap.lt_size ho
      refine call_enum1 (begins_tuple a its.toArray) p' fun h' he hit hsz hk => wpAny_pyIter_enum he ?_
      have I2 : Inv X pins σ H1 { s1 with heap := h' } := I1.kept (t' := s1.toks) hk
      refine ⟨s1.heap.objs.size + 1, [s1.heap.objs.size + 1, s1.heap.objs.size], _, _, H1, rfl, I2, turn_enumT a (s1.heap.objs.size + 1) s1.heap.objs.size, ⟨⟨.none, he⟩, ⟨_, hit, rfl, rfl⟩, Nat.succ_ne_self _, Nat.ne_of_gt (Nat.lt_succ_of_lt hal), Nat.ne_of_lt hal⟩, fun b hb => ?_, q⟩
      have e' : b = s1.heap.objs.size + 1 ∨ b = s1.heap.objs.size := by simpa using hb
      have hle : s1.heap.objs.size ≤ b := by
        rcases e' with z | z
        · rw [z]; exact Nat.le_add_right _ _
        · rw [z]; exact Nat.le_refl _
      exact I1.fpOk hle (I1.hok.fresh hle)
theorem wd_enumT {K : PySem.W.Frag} {Oe F : ASet} {H1 : Hp} {a : Addr} {vs : List V} {xs : List D} (h : SqT K (hid (off Oe F) H1) a vs) (hd : DdAll K (hid (off Oe F) H1) vs xs) : WD K Oe F H1 (IteT K a) (enumL xs) := by
  have up : ∀ H, Ext (off Oe F) H1 H → Sub (hid (off Oe F) H1) H := fun H e b o q => by
    obtain ⟨n, q⟩ := hid_some.mp q
    exact e b o q n
  have st : ∀ H, Ext (off Oe F) H1 H → SqT K H a vs := fun H e => sqt_sub (up H e) h
  have hl := dpa_len hd
  have hl2 : (enumL xs).length = xs.length := by unfold enumL; rw [List.length_map, List.length_zipIdx]
  refine ⟨fun i H hi e => ⟨vs, vs[i]'(by omega), st H e, List.getElem?_eq_getElem _⟩, fun H e => ⟨vs, st H e, by omega⟩, fun i H x H' O' hi e ht hO y => ?_⟩
  obtain ⟨T, x, rfl, hT, rfl, hx⟩ := y
  obtain ⟨d, h1, h2⟩ := dpa_getV hd (hx vs (st H e))
  obtain ⟨s, q⟩ := fresh_tup hT ht (.cons (.int (i : Nat)) (.cons (dp_sub (sub_P e hO) h2) .nil))
  refine ⟨s, _, ?_, q⟩
  unfold enumL
  rw [List.getElem?_map, List.getElem?_zipIdx, h1, Nat.zero_add]
  rfl
section
variable {X : Cx} {BI : BoxI} {C : Ctx} {a : Expr} {a' : Ex} {pos p : Pos}
theorem s_enum {elts : List Expr} {kk : Nat} {tpos : Pos} (hg : Gl X "enumerate") (hm : X.mg "enumerate" = none) (ha : PE X a (rdE X.K BI C a')) (hs : starEach [a] X.env = [(false, eval a X.env)]) :
    PI X (.Tuple elts kk tpos) (.Call (.Name "enumerate" p) [a] [] pos) (rdI X.K BI C (.enum a')) :=
  pi_imp (pi_enumA hg hm (pa_cons ha pa_nil hs) hs) fun σ H R ⟨Oe, F, bx, ρ, kd, r, e, post⟩ => by
    refine ⟨Oe, F, bx, ρ, _, r, e, fun x ρ1 v H1 e1 r1 o1 _ e => ?_⟩
    obtain ⟨d, rfl, hd, e⟩ := cap_dd o1 e
    cases hd with
    | lst h1 h2 => exact ⟨_, _, rfl, .inl ⟨SqL.of (hid_some.mp h1).2, post _ _ ρ1 H1 e1 r1 (wd_enum h1 h2) e⟩⟩
    | tup h1 h2 => exact ⟨_, _, rfl, .inr ⟨sqt_sub hid_sub h1, post _ _ ρ1 H1 e1 r1 (wd_enumT h1 h2) e⟩⟩
    | _ => exact False.elim e
end
end DD

/-! DDK: xs.index(d). -/
namespace DD
open PySem PySem.Spec PyProof.Rows L2 PySem.W
theorem slot_dc {K : PySem.W.Frag} {BI : BoxI} {Oe F : ASet} {bx : Bx} {σ : L2.St} {H : Hp} {ρ : En} {i : Nat} {k : D → Prop} (r : Rel K BI Oe F bx σ H ρ) (e : slotD ρ i k) : ∃ v dx, σ[i]? = some (some v) ∧ Dc K (hid (off Oe F) H) H v dx ∧ k dx := by
  unfold slotD at e
  split at e
  · rename_i x q
    obtain ⟨v, h1, h2⟩ := r.dat _ _ q
    exact ⟨v, x, h1, dc_of hid_sub h2, e⟩
  · rename_i x q
    obtain ⟨v, h1, h2⟩ := r.own _ _ q
    exact ⟨.ref v, x, h1, h2.2.2.dc, e⟩
  · exact e.elim
theorem ty_of {K : PySem.W.Frag} {Hh H : Hp} {v : V} {x : D} (h : Dc K Hh H v x) (e : isiD x .list = true) : tyV K "list" v H := by
  cases h with
  | lst h1 h2 => exact ty_list h1
  | _ => cases e
section
variable {X : Cx} {BI : BoxI} {C : Ctx} {a : Expr} {a' : Ex}
theorem s_ixof {i : Nat} {e : Expr} {x : Str} {p : Pos} (hu : X.A.units + 128 < cLine) (hn : X.N[i]? = some x) (hv : Vis X.env.scope x) (hd : (x == ("__debug__" : Str)) = false) (hcd : (x == ("__classdict__" : Str)) = false) (ha : PE X a (rdE X.K BI C a')) (hs : starEach [a] X.env = (false, eval a X.env) :: starEach [] X.env)
    (h : ∀ {to : TE} {t : TA}, PE X (.Name x p) to → PA X [a] t → PE X e (tBM X.K "list" (rIndexD X.K) to t)) : PE X e (rdE X.K BI C (.ixof i a')) :=
  pe_imp (h (pe_var hn hv hd hcd) (pa_cons ha pa_nil hs)) fun σ H Q ⟨Oe, F, bx, ρ, kd, r, e, post⟩ => by
    obtain ⟨v, x0, hl, h0, t0, e⟩ := slot_dc r e
    refine ⟨v, hl, ty_of h0 t0, Oe, F, bx, ρ, _, r, e, fun rv ρ1 u H1 e1 r1 o1 _ e => ?_⟩
    obtain ⟨v1, x1, hl1, h1, e⟩ := slot_dc r1 e
    rw [hl] at hl1
    cases hl1
    obtain ⟨d, hd, e⟩ := bor_dc r1 o1 e
    have dp := (h1.dd hid_sub).dp
    have dq := (hd.dd hid_sub).dp
    cases h1 with
    | lst g1 g2 =>
      obtain ⟨s1, s2, j, z, hz, ez, hno, e⟩ := e
      exact ⟨_, u, d, _, j, z, rfl, rfl, dp, dq, s1, s2, hz, ez, hno, post (.d (.int j)) ρ1 _ H1 e1 r1 (.int _) (nofr rfl) e⟩
    | _ => exact e.elim
end
end DD

/-! DD9: the check that a text of the language is a text of the program, and soundness of expressions. -/
namespace DD
open PySem PySem.Spec PyProof.Rows L2 PySem.W

structure Tab where
  fns : List (Nat × Str × Nat)
  csts : List Str
  bis : List Str
structure XOk (T : Tab) (BI : BoxI) (C : Ctx) (n : Nat) (X : Cx) : Prop where
  nodup : X.N.Nodup
  calm : X.calm = true
  room : Room n X.A
  xe : X.xe = fun _ _ => False
  fns : ∀ f x ar, T.fns.lookup f = some (x, ar) → ∃ fa fd ps, X.mg x = some (.ref fa) ∧ PySem.W.keepIn X.K (.ref fa) = true ∧ Binds X.K fd ps [] ∧ FnOk X.prog X.w X.K X.mg X.base CX0 n fa fd ps (spF X.K BI C.call f ar)
  bis : ∀ x ∈ T.bis, X.mg x = none
  cst : ∀ c x, T.csts[c]? = some x → ∃ u v d, X.mg x = some u ∧ RelV v u ∧ (∀ H, Dd X.K H v d) ∧ ∀ d', C.cst c = some d' → d' = d

def visB (sc : Scope) (x : Str) : Bool := match sc.names.lookup x with | some .local => true | some .cell => true | some .free => true | _ => false
def nmB (x : Str) : Bool := !(x == ("__debug__" : Str)) && !(x == ("__classdict__" : Str))
def glB (sc : Scope) (x : Str) : Bool := match sc.names.lookup x with | some .globalImplicit => true | _ => false
def notStar : Expr → Bool | .Starred .. => false | _ => true
def notSlice : Expr → Bool | .Slice .. => false | _ => true
def locB (sc : Scope) (fc : Str → Bool) (x : Str) : Bool := match sc.names.lookup x with | some .local => true | some .cell => fc x | _ => false
def nmOkB (N : List Str) (sc : Scope) (fc : Str → Bool) (i : Nat) (e : Expr) : Bool := match e with | .Name x _ => decide (N[i]? = some x) && locB sc fc x | _ => false
def ckNms (N : List Str) (sc : Scope) (fc : Str → Bool) : List Nat → List Expr → Bool
  | [], [] => true
  | i :: is, e :: es => nmOkB N sc fc i e && ckNms N sc fc is es
  | _, _ => false
def ckTg (N : List Str) (sc : Scope) (fc : Str → Bool) (tg : Tg) (e : Expr) : Bool := match tg with
  | .nm i => nmOkB N sc fc i e
  | .tp is => match e with | .Tuple es _ _ => ckNms N sc fc is es | _ => false
def biN : Bi → Option (Str × Nat)
  | .len => some ("len", 1) | .abs => some ("abs", 1) | .int => some ("int", 1) | .str => some ("str", 1) | .sum => some ("sum", 1) | .all => some ("all", 1) | .any => some ("any", 1)
  | .min => some ("min", 1) | .max => some ("max", 1) | .min2 => some ("min", 2) | .max2 => some ("max", 2) | .sorted => some ("sorted", 1) | .list => some ("list", 1) | .tuple => some ("tuple", 1)
  | _ => none
def tyS : Ty → Str
  | .int => "int" | .bool => "bool" | .str => "str" | .tuple => "tuple" | .list => "list"
def isTupE : Expr → Bool | .Tuple .. => true | _ => false
def isRg : It → Bool | .rng1 _ => true | .rng2 .. => true | _ => false
mutual
def ckE (T : Tab) (N : List Str) (sc : Scope) (fc : Str → Bool) : Ex → Expr → Bool
  | .var i, e => match e with | .Name x _ => decide (N[i]? = some x) && visB sc x && nmB x | _ => false
  | .gl c, e => match e with | .Name x _ => decide (T.csts[c]? = some x) && glB sc x && nmB x | _ => false
  | .int n, e => match e with | .Constant (.int m) _ _ => decide (n = m) | _ => false
  | .str s, e => match e with | .Constant (.str m) _ _ => decide (s = m) | _ => false
  | .bl b, e => match e with | .Constant (.bool m) _ _ => decide (b = m) | _ => false
  | .non, e => match e with | .Constant .none _ _ => true | _ => false
  | .tup es, e => match e with | .Tuple l _ _ => decide (esLen es ≤ 1000) && ckA T N sc fc es l | _ => false
  | .lst es, e => match e with | .List l _ => decide (esLen es ≤ 1000) && ckA T N sc fc es l | _ => false
  | .bin op a b, e => match e with | .BinOp x o y _ => decide (op = o) && (ckE T N sc fc a x && ckE T N sc fc b y) | _ => false
  | .neg a, e => match e with | .UnaryOp .USub x _ => ckE T N sc fc a x | _ => false
  | .not a, e => match e with | .UnaryOp .Not x _ => ckE T N sc fc a x | _ => false
  | .and es, e => match e with | .BoolOp .And l _ => !l.isEmpty && ckA T N sc fc es l | _ => false
  | .or es, e => match e with | .BoolOp .Or l _ => !l.isEmpty && ckA T N sc fc es l | _ => false
  | .cmp op a b, e => match e with | .Compare x [o] [y] _ => decide (op = o) && !behindInMarks op y && (ckE T N sc fc a x && ckE T N sc fc b y) | _ => false
  | .chn op op' a b c, e => match e with | .Compare x [o, o'] [y, z] _ => decide (op = o) && decide (op' = o') && !lastMarks [op, op'] [y, z] && (ckE T N sc fc a x && (ckE T N sc fc b y && ckE T N sc fc c z)) | _ => false
  | .ite c a b, e => match e with | .IfExp z x y _ => ckE T N sc fc c z && (ckE T N sc fc a x && ckE T N sc fc b y) | _ => false
  | .idx a i, e => match e with | .Subscript x y _ => notSlice y && (ckE T N sc fc a x && ckE T N sc fc i y) | _ => false
  | .slc a lo hi, e => match e with | .Subscript x (.Slice l h none _) _ => ckE T N sc fc a x && (ckO T N sc fc lo l && ckO T N sc fc hi h) | _ => false
  | .rev a, e => match e with | .Subscript x (.Slice none none (some (.UnaryOp .USub (.Constant (.int m) _ _) _)) _) _ => decide (m = 1) && ckE T N sc fc a x | _ => false
  | .call f es, e => match e with | .Call (.Name x _) l [] _ => decide (T.fns.lookup f = some (x, esLen es)) && glB sc x && nmB x && !l.isEmpty && ckA T N sc fc es l | _ => false
  | .bi b es, e => match e with | .Call (.Name x _) l [] _ => decide (biN b = some (x, esLen es)) && T.bis.contains x && glB sc x && !l.isEmpty && ckA T N sc fc es l | _ => false
  | .isi a t, e => match e with | .Call (.Name x _) [y, .Name z _] [] _ => decide (x = "isinstance") && decide (z = tyS t) && T.bis.contains x && T.bis.contains z && glB sc x && glB sc z && notStar y && ckE T N sc fc a y | _ => false
  | .pop0 i, e => match e with | .Call (.Attribute (.Name x _) m ap) [] [] cp => decide (m = "pop") && (ap.endLine == cp.line) && decide (N[i]? = some x) && visB sc x && nmB x | _ => false
  | .popA i a, e => match e with | .Call (.Attribute (.Name x _) m ap) [y] [] cp => decide (m = "pop") && (ap.endLine == cp.line) && decide (N[i]? = some x) && visB sc x && nmB x && notStar y && ckE T N sc fc a y | _ => false
  | .ixof i a, e => match e with | .Call (.Attribute (.Name x _) m ap) [y] [] cp => decide (m = "index") && (ap.endLine == cp.line) && decide (N[i]? = some x) && visB sc x && nmB x && notStar y && ckE T N sc fc a y | _ => false
  | .lc elt vs tg it cs, e => match e with
    | .ListComp el [⟨tge, ite, ifs, as⟩] scope _ => decide (as = 0) && blkC N sc scope (vs.map fun i => (N.getD i "", i)) && (tgS tg).all vs.contains && decide (ifs.length ≤ 1) && ckI T N sc fc (isTupE tge) it ite &&
        (ckTg N (relS scope sc) (fun x => scope.names.lookup x == some .cell) tg tge && (ckA T N (relS scope sc) (fun x => scope.names.lookup x == some .cell) cs ifs && ckE T N (relS scope sc) (fun x => scope.names.lookup x == some .cell) elt el))
    | _ => false
  | .lc2 elt vs tg it cs vs2 tg2 it2 cs2, e => match e with
    | .ListComp el [⟨tge, ite, ifs, as⟩, ⟨tge2, ite2, ifs2, as2⟩] scope _ => decide (as = 0) && decide (as2 = 0) && blkC N sc scope (vs.map fun i => (N.getD i "", i)) && (tgS tg).all vs.contains && (tgS tg2).all vs2.contains && vs2.all vs.contains && decide (ifs.length ≤ 1) && decide (ifs2.length ≤ 1) && ckI T N sc fc (isTupE tge) it ite &&
        (ckTg N (relS scope sc) (fun x => scope.names.lookup x == some .cell) tg tge && (ckTg N (relS scope sc) (fun x => scope.names.lookup x == some .cell) tg2 tge2 && (ckI T N (relS scope sc) (fun x => scope.names.lookup x == some .cell) (isTupE tge2) it2 ite2 &&
        (ckA T N (relS scope sc) (fun x => scope.names.lookup x == some .cell) cs ifs && (ckA T N (relS scope sc) (fun x => scope.names.lookup x == some .cell) cs2 ifs2 && ckE T N (relS scope sc) (fun x => scope.names.lookup x == some .cell) elt el)))))
    | _ => false
  | .listI it, e => match e with | .Call (.Name x _) [y] [] _ => decide (x = "list") && T.bis.contains x && glB sc x && isRg it && ckI T N sc fc false it y | _ => false
  | .tupI it, e => match e with | .Call (.Name x _) [y] [] _ => decide (x = "tuple") && T.bis.contains x && glB sc x && isRg it && ckI T N sc fc false it y | _ => false
  | .sset a, e => match e with | .Call (.Name x _) [.Call (.Name z _) [y] [] _] [] _ => decide (x = "sorted") && decide (z = "set") && T.bis.contains x && T.bis.contains z && glB sc x && glB sc z && notStar y && ckE T N sc fc a y | _ => false
  | .bad, e => match e with | .ListComp .. => false | _ => true
def ckA (T : Tab) (N : List Str) (sc : Scope) (fc : Str → Bool) : Es → List Expr → Bool
  | .nil, l => match l with | [] => true | _ => false
  | .cons e es, l => match l with | x :: xs => notStar x && (ckE T N sc fc e x && ckA T N sc fc es xs) | _ => false
def ckO (T : Tab) (N : List Str) (sc : Scope) (fc : Str → Bool) : Eo → Option Expr → Bool
  | .none, o => match o with | none => true | _ => false
  | .some a, o => match o with | some x => ckE T N sc fc a x | _ => false
def ckI (T : Tab) (N : List Str) (sc : Scope) (fc : Str → Bool) (tp : Bool) : It → Expr → Bool
  | .seq a, e => (match e with | .Set .. => false | _ => true) && ckE T N sc fc a e
  | .rng1 a, e => match e with | .Call (.Name x _) [y] [] _ => decide (x = "range") && T.bis.contains x && glB sc x && notStar y && ckE T N sc fc a y | _ => false
  | .rng2 a b, e => match e with | .Call (.Name x _) [y, z] [] _ => decide (x = "range") && T.bis.contains x && glB sc x && notStar y && notStar z && (ckE T N sc fc a y && ckE T N sc fc b z) | _ => false
  | .rng3 a b c, e => match e with | .Call (.Name x _) [y, z, u] [] _ => decide (x = "range") && T.bis.contains x && glB sc x && notStar y && notStar z && notStar u && (ckE T N sc fc a y && (ckE T N sc fc b z && ckE T N sc fc c u)) | _ => false
  | .enum a, e => match e with | .Call (.Name x _) [y] [] _ => tp && decide (x = "enumerate") && T.bis.contains x && glB sc x && notStar y && ckE T N sc fc a y | _ => false
  | .zip a b, e => match e with | .Call (.Name x _) [y, z] [] _ => tp && decide (x = "zip") && T.bis.contains x && glB sc x && notStar y && notStar z && (ckE T N sc fc a y && ckE T N sc fc b z) | _ => false
end

/-! ### what the checks give -/
theorem vis_of {sc : Scope} {x : Str} (h : visB sc x = true) : Vis sc x := by
  unfold visB at h
  unfold Vis
  split at h <;> first | exact .inl (by assumption) | exact .inr (.inl (by assumption)) | exact .inr (.inr (by assumption)) | cases h
theorem nm_of {x : Str} (h : nmB x = true) : (x == ("__debug__" : Str)) = false ∧ (x == ("__classdict__" : Str)) = false := by
  unfold nmB at h
  simpa using h
theorem gl_of {X : Cx} {x : Str} (h : glB X.env.scope x = true) : Gl X x := by
  unfold glB at h
  split at h
  · assumption
  · cases h
theorem star_of {e : Expr} {es : List Expr} {env : Env} (h : notStar e = true) : starEach (e :: es) env = (false, eval e env) :: starEach es env := by
  cases e <;> first | rfl | cases h
theorem ix_of {e : Expr} (h : notSlice e = true) : PlainIx e := by
  intro o i
  cases e <;> first | rfl | cases h
theorem nmOk_of {X : Cx} {fc : Str → Bool} (hf : ∀ x, fc x = true → X.fn x = true) {i : Nat} {e : Expr} (h : nmOkB X.N X.env.scope fc i e = true) : NmOk X i e := by
  unfold nmOkB at h
  split at h
  · rename_i x p
    simp only [Bool.and_eq_true, decide_eq_true_eq] at h
    obtain ⟨h1, h2⟩ := h
    refine ⟨x, p, rfl, h1, ?_⟩
    unfold locB at h2
    split at h2
    · rename_i q; exact ⟨.inl q, .inr q⟩
    · rename_i q; exact ⟨.inr q, .inl (hf x h2)⟩
    · cases h2
  · cases h
theorem nms_of {X : Cx} {fc : Str → Bool} (hf : ∀ x, fc x = true → X.fn x = true) : ∀ {is : List Nat} {es : List Expr}, ckNms X.N X.env.scope fc is es = true → Paired (NmOk X) is es
  | [], [], _ => .nil
  | i :: is, e :: es, h => by
    simp only [ckNms, Bool.and_eq_true] at h
    exact .cons (nmOk_of hf h.1) (nms_of hf h.2)
  | [], _ :: _, h => by cases h
  | _ :: _, [], h => by cases h
theorem tg_of {X : Cx} {BI : BoxI} {fc : Str → Bool} (hN : X.N.Nodup) (hc : X.calm = true) (hf : ∀ x, fc x = true → X.fn x = true) {tg : Tg} {e : Expr} (h : ckTg X.N X.env.scope fc tg e = true) : PG X e (rdTg X.K BI tg) := by
  cases tg with
  | nm i => exact s_nm hN (nmOk_of hf h)
  | tp is =>
    simp only [ckTg] at h
    split at h
    · exact s_tp hN hc (nms_of hf h)
    · cases h
theorem any_of : ∀ {es : List Expr} {env : Env} {pos : Pos}, (∀ e ∈ es, notStar e = true) → (backTo pos (starEach es env)).any (·.1) = false
  | [], _, _, _ => rfl
  | e :: es, env, pos, h => by
    rw [star_of (h e List.mem_cons_self)]
    have := any_of (es := es) (env := env) (pos := pos) fun x hx => h x (List.mem_cons_of_mem _ hx)
    show (backTo pos ((false, eval e env) :: starEach es env)).any (·.1) = false
    unfold backTo at this ⊢
    rw [List.map_cons, List.any_cons, this]
    rfl
/-- built-in calls -/
theorem bi_pe {X : Cx} {b : Bi} {x : Str} {n : Nat} {p pos : Pos} {e : Expr} {es : List Expr} (hb : biN b = some (x, n)) (hc : X.calm = true) (hu : X.A.units + 128 < cLine) (hg : Gl X x) (hm : X.mg x = none)
    (he : starEach (e :: es) X.env = (false, eval e X.env) :: starEach es X.env) (hpl : (backTo pos (starEach es X.env)).any (·.1) = false) {t : TA} (ha : PA X (e :: es) t) : PE X (.Call (.Name x p) (e :: es) [] pos) (tCB (rBi X.K b) t) := by
  cases b <;> simp only [biN, Option.some.injEq, Prod.mk.injEq] at hb <;> first | contradiction | skip
  · obtain ⟨rfl, _⟩ := hb; exact pe_callB cr_len hg hm PySem.boot_len ha (by decide) (by decide) he hpl
  · obtain ⟨rfl, _⟩ := hb; exact pe_callB cr_abs hg hm (by decide +kernel) ha (by decide) (by decide) he hpl
  · obtain ⟨rfl, _⟩ := hb; exact pe_callTy cr_int hg hm (by decide +kernel) ha (by decide) (by decide) he hpl
  · obtain ⟨rfl, _⟩ := hb; exact pe_callTy cr_str hg hm (by decide +kernel) ha (by decide) (by decide) he hpl
  · obtain ⟨rfl, _⟩ := hb; exact pe_callB (cr_sumD hc) hg hm (by decide +kernel) ha (by decide) (by decide) he hpl
  · obtain ⟨rfl, _⟩ := hb; exact pe_callB (cr_allD hc) hg hm (by decide +kernel) ha (by decide) (by decide) he hpl
  · obtain ⟨rfl, _⟩ := hb; exact pe_callB (cr_anyD hc) hg hm (by decide +kernel) ha (by decide) (by decide) he hpl
  · obtain ⟨rfl, _⟩ := hb; exact pe_callB (cr_minD hc hu) hg hm (by decide +kernel) ha (by decide) (by decide) he hpl
  · obtain ⟨rfl, _⟩ := hb; exact pe_callB (cr_maxD hc hu) hg hm (by decide +kernel) ha (by decide) (by decide) he hpl
  · obtain ⟨rfl, _⟩ := hb; exact pe_callB (cr_min2D hc) hg hm (by decide +kernel) ha (by decide) (by decide) he hpl
  · obtain ⟨rfl, _⟩ := hb; exact pe_callB (cr_max2D hc) hg hm (by decide +kernel) ha (by decide) (by decide) he hpl
  · obtain ⟨rfl, _⟩ := hb; exact pe_callB (cr_sortedD hu) hg hm (by decide +kernel) ha (by decide) (by decide) he hpl
  · obtain ⟨rfl, _⟩ := hb; exact pe_callTy cr_list hg hm (by decide +kernel) ha (by decide) (by decide) he hpl
  · obtain ⟨rfl, _⟩ := hb; exact pe_callTy cr_tuple hg hm (by decide +kernel) ha (by decide) (by decide) he hpl
theorem ty_pe {X : Cx} {t : Ty} {p : Pos} (hg : Gl X (tyS t)) (hm : X.mg (tyS t) = none) : PE X (.Name (tyS t) p) (tC (.ty (tyN t))) := by
  cases t
  · exact pe_bltn (u := .type "int") hg hm (by decide +kernel) rfl
  · exact pe_bltn (u := .type "bool") hg hm (by decide +kernel) rfl
  · exact pe_bltn (u := .type "str") hg hm (by decide +kernel) rfl
  · exact pe_bltn (u := .type "tuple") hg hm (by decide +kernel) rfl
  · exact pe_bltn (u := .type "list") hg hm (by decide +kernel) rfl
theorem units_of {A : Around} {n : Nat} (h : Room n A) : A.units + 128 < cLine := by have := h.un; omega
end DD

/-! DD10: the check of expressions is sound. -/
namespace DD
open PySem PySem.Spec PyProof.Rows L2 PySem.W

abbrev Gd (X : Cx) (BI : BoxI) (C : Ctx) (a' : Ex) (a : Expr) : Prop := PE X a (rdE X.K BI C a') ∧ PT X a (rdT X.K BI C a')
structure GdA (X : Cx) (BI : BoxI) (C : Ctx) (es' : Es) (l : List Expr) : Prop where
  pa : PA X l (rdA X.K BI C es')
  ns : ∀ e ∈ l, notStar e = true
  len : l.length = esLen es'
  land : l ≠ [] → ∀ pos, PE X (.BoolOp .And l pos) (rdG X.K BI (evAnd C es') false) ∧ PW X (.BoolOp .And l pos) (rdTG X.K BI (evAnd C es'))
  lor : l ≠ [] → ∀ pos, PE X (.BoolOp .Or l pos) (rdG X.K BI (evOr C es') false) ∧ PW X (.BoolOp .Or l pos) (rdTG X.K BI (evOr C es'))
  cs : l.length ≤ 1 → PTs X l (rdC X.K BI C es')
theorem xok_blk {T : Tab} {BI : BoxI} {C : Ctx} {n : Nat} {X : Cx} (h : XOk T BI C n X) (s : Shared) (H : Hp) (scope : Scope) (cenv : Env) (fp : List Addr) : XOk T BI C n (X.blk s H scope cenv fp) :=
  ⟨h.nodup, h.calm, h.room, rfl, h.fns, h.bis, h.cst⟩
theorem bi_in {T : Tab} {BI : BoxI} {C : Ctx} {n : Nat} {X : Cx} (h : XOk T BI C n X) {x : Str} (hx : T.bis.contains x = true) : X.mg x = none := h.bis x (List.contains_iff_mem.mp hx)
theorem own_ix {N : List Str} {sc scope : Scope} {own : List (Str × Nat)} (h : blkC N sc scope own = true) : True := trivial
theorem map_snd {N : List Str} : ∀ vs : List Nat, (vs.map fun i => (N.getD i "", i)).map (·.2) = vs
  | [] => rfl
  | v :: vs => by
    show v :: ((vs.map fun i => (N.getD i "", i)).map (·.2)) = v :: vs
    rw [map_snd vs]
theorem s_tite {X : Cx} {BI : BoxI} {C : Ctx} {a b c : Expr} {a' b' c' : Ex} {pos : Pos} (hc : PT X c (rdT X.K BI C c')) (ha : PT X a (rdT X.K BI C a')) (hb : PT X b (rdT X.K BI C b')) : PT X (.IfExp c a b pos) (rdT X.K BI C (.ite c' a' b')) := by
  refine ⟨fun pins s σ H Q I ⟨Oe, F, bx, ρ, kd, r, e, post⟩ => ?_⟩
  let k2 : RV → En → Prop := fun rv ρ' => bor ρ' rv fun d => truthD d fun b => kd b ρ'
  let P1 : Bool → Hp → Prop := fun t H1 => ∃ ρ1, Ext F H H1 ∧ Rel X.K BI Oe F bx σ H1 ρ1 ∧ if t = true then ev C a' ρ1 k2 else ev C b' ρ1 k2
  have h1 := hc.run pins s σ H P1 I ⟨Oe, F, bx, ρ, fun t ρ1 => if t = true then ev C a' ρ1 k2 else ev C b' ρ1 k2, r, e, fun t ρ1 H1 e1 r1 e => ⟨ρ1, e1, r1, e⟩⟩
  refine wpAny_bind (thn h1 fun t s1 ⟨H1, I1, ρ1, e1, r1, e⟩ => ?_)
  cases t with
  | true => exact ha.run pins s1 σ H1 Q I1 ⟨Oe, F, bx, ρ1, kd, r1, e, fun b ρ2 H2 e2 r2 e => post b ρ2 H2 (e1.trans e2) r2 e⟩
  | false => exact hb.run pins s1 σ H1 Q I1 ⟨Oe, F, bx, ρ1, kd, r1, e, fun b ρ2 H2 e2 r2 e => post b ρ2 H2 (e1.trans e2) r2 e⟩
theorem few1 {e : Expr} {env : Env} {cpos : Pos} (h : notStar e = true) : ((backTo cpos (starEach [e] env)).all (fun x => !x.1) && (backToKw cpos (keywordEach [] env)).all (fun x => x.1.isSome)
    && decide ([e].length + ([] : List Keyword).length + (if ([] : List Keyword).isEmpty then 0 else 1) < 30)) = true := by
  rw [star_of (es := []) (env := env) h]; rfl
theorem foldedAll {T : Tab} {N : List Str} {sc : Scope} {fc : Str → Bool} {tp : Bool} {it : DD.It} {e : Expr} (h : ckI T N sc fc tp it e = true) : ∀ env x, foldedSetIterable e env x = pure x := by
  intro env x
  cases e <;> first | rfl | skip
  cases it <;> simp [ckI] at h
mutual
theorem sndE {T : Tab} {BI : BoxI} {C : Ctx} {n : Nat} : ∀ (e' : Ex) (X : Cx) (fc : Str → Bool) (e : Expr), XOk T BI C n X → (∀ x, fc x = true → X.fn x = true) → ckE T X.N X.env.scope fc e' e = true → Gd X BI C e' e
  | .var i, X, fc, e, hx, hf, h => by
    simp only [ckE] at h
    split at h
    · rename_i x p
      simp only [Bool.and_eq_true, decide_eq_true_eq] at h
      have q := nm_of h.2
      have pe : PE X (.Name x p) (rdE X.K BI C (.var i)) := s_var h.1.1 (vis_of h.1.2) q.1 q.2
      exact ⟨pe, s_truth pe (by intro _; rfl)⟩
    · cases h
  | .gl c, X, fc, e, hx, hf, h => by
    simp only [ckE] at h
    split at h
    · rename_i x p
      simp only [Bool.and_eq_true, decide_eq_true_eq] at h
      have q := nm_of h.2
      obtain ⟨u, v, d, h1, h2, h3, h4⟩ := hx.cst c x h.1.1
      have pe : PE X (.Name x p) (rdE X.K BI C (.gl c)) := s_gl (gl_of h.1.2) h1 h2 q.1 h3 h4
      exact ⟨pe, s_truth pe (by intro _; rfl)⟩
    · cases h
  | .int n, X, fc, e, hx, hf, h => by
    simp only [ckE] at h
    split at h
    · simp only [decide_eq_true_eq] at h
      subst h
      exact ⟨s_int, s_truth s_int (by intro _; rfl)⟩
    · cases h
  | .str n, X, fc, e, hx, hf, h => by
    simp only [ckE] at h
    split at h
    · simp only [decide_eq_true_eq] at h
      subst h
      exact ⟨s_str, s_truth s_str (by intro _; rfl)⟩
    · cases h
  | .bl n, X, fc, e, hx, hf, h => by
    simp only [ckE] at h
    split at h
    · simp only [decide_eq_true_eq] at h
      subst h
      exact ⟨s_bl, s_truth s_bl (by intro _; rfl)⟩
    · cases h
  | .non, X, fc, e, hx, hf, h => by
    simp only [ckE] at h
    split at h
    · exact ⟨s_non, s_truth s_non (by intro _; rfl)⟩
    · cases h
  | .tup es, X, fc, e, hx, hf, h => by
    simp only [ckE] at h
    split at h
    · simp only [Bool.and_eq_true, decide_eq_true_eq] at h
      have g := sndA es X fc _ hx hf h.2
      have pe := fun {j pos} => s_tup (j := j) (pos := pos) g.pa (Nat.le_trans h.1 (by decide))
      exact ⟨pe, s_truth pe (by intro _; rfl)⟩
    · cases h
  | .lst es, X, fc, e, hx, hf, h => by
    simp only [ckE] at h
    split at h
    · simp only [Bool.and_eq_true, decide_eq_true_eq] at h
      have g := sndA es X fc _ hx hf h.2
      have pe := fun {pos} => s_lst (pos := pos) g.pa (Nat.le_trans h.1 (by decide))
      exact ⟨pe, s_truth pe (by intro _; rfl)⟩
    · cases h
  | .bin op a b, X, fc, e, hx, hf, h => by
    simp only [ckE] at h
    split at h
    · simp only [Bool.and_eq_true, decide_eq_true_eq] at h
      obtain ⟨rfl, h1, h2⟩ := h
      have pe := fun {pos} => s_bin (op := op) (pos := pos) (sndE a X fc _ hx hf h1).1 (sndE b X fc _ hx hf h2).1
      exact ⟨pe, s_truth pe (by intro _; rfl)⟩
    · cases h
  | .neg a, X, fc, e, hx, hf, h => by
    simp only [ckE] at h
    split at h
    · have pe := fun {pos} => s_neg (pos := pos) (sndE a X fc _ hx hf h).1
      exact ⟨pe, s_truth pe (by intro _; rfl)⟩
    · cases h
  | .not a, X, fc, e, hx, hf, h => by
    simp only [ckE] at h
    split at h
    · have g := sndE a X fc _ hx hf h
      exact ⟨s_not g.1, s_tnot g.2⟩
    · cases h
  | .and es, X, fc, e, hx, hf, h => by
    simp only [ckE] at h
    split at h
    · rename_i l pos
      simp only [Bool.and_eq_true] at h
      have g := sndA es X fc _ hx hf h.2
      have hl : l ≠ [] := by
        intro z
        rw [z] at h; cases h.1
      obtain ⟨h1, h2⟩ := g.land hl pos
      exact ⟨pe_imp h1 fun _ _ _ h => h, pt_imp h2.pt fun _ _ _ h => h⟩
    · cases h
  | .or es, X, fc, e, hx, hf, h => by
    simp only [ckE] at h
    split at h
    · rename_i l pos
      simp only [Bool.and_eq_true] at h
      have g := sndA es X fc _ hx hf h.2
      have hl : l ≠ [] := by
        intro z
        rw [z] at h; cases h.1
      obtain ⟨h1, h2⟩ := g.lor hl pos
      exact ⟨pe_imp h1 fun _ _ _ h => h, pt_imp h2.pt fun _ _ _ h => h⟩
    · cases h
  | .cmp op a b, X, fc, e, hx, hf, h => by
    simp only [ckE] at h
    split at h
    · simp only [Bool.and_eq_true, decide_eq_true_eq, Bool.not_eq_true'] at h
      obtain ⟨⟨rfl, h0⟩, h1, h2⟩ := h
      have ga := (sndE a X fc _ hx hf h1).1
      have gb := (sndE b X fc _ hx hf h2).1
      exact ⟨s_cmp (units_of hx.room) ga gb h0, s_tcmp (units_of hx.room) ga gb h0⟩
    · cases h
  | .chn op op' a b c, X, fc, e, hx, hf, h => by
    simp only [ckE] at h
    split at h
    · simp only [Bool.and_eq_true, decide_eq_true_eq, Bool.not_eq_true'] at h
      obtain ⟨⟨⟨rfl, rfl⟩, h0⟩, h1, h2, h3⟩ := h
      have ga := (sndE a X fc _ hx hf h1).1
      have gb := (sndE b X fc _ hx hf h2).1
      have gc := (sndE c X fc _ hx hf h3).1
      exact ⟨s_chn (units_of hx.room) ga gb gc h0, s_tchn (units_of hx.room) ga gb gc h0⟩
    · cases h
  | .ite c a b, X, fc, e, hx, hf, h => by
    simp only [ckE] at h
    split at h
    · rename_i z x y p
      simp only [Bool.and_eq_true] at h
      obtain ⟨h1, h2, h3⟩ := h
      have gc := sndE c X fc _ hx hf h1
      have ga := sndE a X fc _ hx hf h2
      have gb := sndE b X fc _ hx hf h3
      exact ⟨s_ite gc.2 ga.1 gb.1, s_tite gc.2 ga.2 gb.2⟩
    · cases h
  | .idx a i, X, fc, e, hx, hf, h => by
    simp only [ckE] at h
    split at h
    · simp only [Bool.and_eq_true] at h
      obtain ⟨h0, h1, h2⟩ := h
      have pe := fun {pos} => s_idx (pos := pos) (sndE a X fc _ hx hf h1).1 (sndE i X fc _ hx hf h2).1 (ix_of h0)
      exact ⟨pe, s_truth pe (by intro _; rfl)⟩
    · cases h
  | .slc a lo hi, X, fc, e, hx, hf, h => by
    simp only [ckE] at h
    split at h
    · simp only [Bool.and_eq_true] at h
      obtain ⟨h0, h1, h2⟩ := h
      have pe := fun {pos p2} => s_slc (pos := pos) (p2 := p2) (sndE a X fc _ hx hf h0).1 (sndO lo X fc _ hx hf h1) (sndO hi X fc _ hx hf h2)
      exact ⟨pe, s_truth pe (by intro _; rfl)⟩
    · cases h
  | .rev a, X, fc, e, hx, hf, h => by
    simp only [ckE] at h
    split at h
    · simp only [Bool.and_eq_true, decide_eq_true_eq] at h
      obtain ⟨rfl, h⟩ := h
      have pe := fun {k p1 p2 p3 pos} => s_rev (k := k) (p1 := p1) (p2 := p2) (p3 := p3) (pos := pos) (sndE a X fc _ hx hf h).1
      exact ⟨pe, s_truth pe (by intro _; rfl)⟩
    · cases h
  | .call f es, X, fc, e, hx, hf, h => by
    simp only [ckE] at h
    split at h
    · rename_i x p l pos
      simp only [Bool.and_eq_true, decide_eq_true_eq, Bool.not_eq_true'] at h
      obtain ⟨⟨⟨⟨h1, h2⟩, h3⟩, h4⟩, h5⟩ := h
      have g := sndA es X fc _ hx hf h5
      obtain ⟨fa, fd, ps, f1, f2, f3, f4⟩ := hx.fns f x _ h1
      cases l with
      | nil => cases h4
      | cons e0 es0 =>
        have hs0 := star_of (es := es0) (env := X.env) (g.ns e0 List.mem_cons_self)
        have pe := fun {pos} => s_call (pos := pos) (p := p) (e := e0) (es := es0) f4 hx.room (gl_of h2) f1 f2 f3 g.pa rfl (nm_of h3).1 hs0 (any_of fun x hx => g.ns x (List.mem_cons_of_mem _ hx))
        exact ⟨pe, s_truth pe (by intro _; rfl)⟩
    · cases h
  | .bi b es, X, fc, e, hx, hf, h => by
    simp only [ckE] at h
    split at h
    · rename_i x p l pos
      simp only [Bool.and_eq_true, decide_eq_true_eq, Bool.not_eq_true'] at h
      obtain ⟨⟨⟨⟨h1, h2⟩, h3⟩, h4⟩, h5⟩ := h
      have g := sndA es X fc _ hx hf h5
      cases l with
      | nil => cases h4
      | cons e0 es0 =>
        have hs0 := star_of (es := es0) (env := X.env) (g.ns e0 List.mem_cons_self)
        have pe := fun {pos} => s_bi (bi := b) (a := .Call (.Name x p) (e0 :: es0) [] pos) (fun {t} ha => bi_pe h1 hx.calm (units_of hx.room) (gl_of h3) (bi_in hx h2) hs0 (any_of fun x hx => g.ns x (List.mem_cons_of_mem _ hx)) ha) g.pa
        exact ⟨pe, s_truth pe (by intro _; rfl)⟩
    · cases h
  | .isi a t, X, fc, e, hx, hf, h => by
    simp only [ckE] at h
    split at h
    · rename_i x p y z p2 pos
      simp only [Bool.and_eq_true, decide_eq_true_eq] at h
      obtain ⟨⟨⟨⟨⟨⟨⟨rfl, rfl⟩, h1⟩, h2⟩, h3⟩, h4⟩, h5⟩, h6⟩ := h
      have g := sndE a X fc _ hx hf h6
      have hs0 := star_of (es := [.Name (tyS t) p2]) (env := X.env) h5
      have pe := fun {pos} => s_isi (c := .Call (.Name "isinstance" p) [y, .Name (tyS t) p2] [] pos) (es := []) (fun {tt} ha => pe_callB (cr_isi (t := t)) (gl_of h3) (bi_in hx h1) (by decide +kernel) ha (by decide) (by decide) hs0 rfl) g.1 (ty_pe (t := t) (gl_of h4) (bi_in hx h2)) hs0 rfl
      exact ⟨pe, s_truth pe (by intro _; rfl)⟩
    · cases h
  | .pop0 i, X, fc, e, hx, hf, h => by
    simp only [ckE] at h
    split at h
    · rename_i x p m ap cp
      simp only [Bool.and_eq_true, decide_eq_true_eq] at h
      obtain ⟨⟨⟨⟨rfl, h1⟩, h2⟩, h3⟩, h4⟩ := h
      have q := nm_of h4
      have pe : PE X (.Call (.Attribute (.Name x p) "pop" ap) [] [] cp) (rdE X.K BI C (.pop0 i)) := s_pop0 h2 (vis_of h3) q.1 q.2 fun {to} ho => pe_bm0 PySem.F.plainAttrs_list PySem.F.slot_list_pop PySem.F.type_list_pop mt_pop ho (hline := h1)
      exact ⟨pe, s_truth pe (by intro _; rfl)⟩
    · cases h
  | .popA i a, X, fc, e, hx, hf, h => by
    simp only [ckE] at h
    split at h
    · rename_i x p m ap y cp
      simp only [Bool.and_eq_true, decide_eq_true_eq] at h
      obtain ⟨⟨⟨⟨⟨⟨rfl, h1⟩, h2⟩, h3⟩, h4⟩, h5⟩, h6⟩ := h
      have q := nm_of h4
      have g := sndE a X fc _ hx hf h6
      have hs0 := star_of (es := []) (env := X.env) h5
      have pe : PE X (.Call (.Attribute (.Name x p) "pop" ap) [y] [] cp) (rdE X.K BI C (.popA i a)) := s_popA h2 (vis_of h3) q.1 q.2 g.1 hs0 fun {to t} ho ha => pe_bm PySem.F.plainAttrs_list PySem.F.slot_list_pop PySem.F.type_list_pop mt_popAt ho ha (hfew := few1 h5) (hline := h1) (hs := hs0)
      exact ⟨pe, s_truth pe (by intro _; rfl)⟩
    · cases h
  | .ixof i a, X, fc, e, hx, hf, h => by
    simp only [ckE] at h
    split at h
    · rename_i x p m ap y cp
      simp only [Bool.and_eq_true, decide_eq_true_eq] at h
      obtain ⟨⟨⟨⟨⟨⟨rfl, h1⟩, h2⟩, h3⟩, h4⟩, h5⟩, h6⟩ := h
      have q := nm_of h4
      have g := sndE a X fc _ hx hf h6
      have hs0 := star_of (es := []) (env := X.env) h5
      have pe : PE X (.Call (.Attribute (.Name x p) "index" ap) [y] [] cp) (rdE X.K BI C (.ixof i a)) := s_ixof (units_of hx.room) h2 (vis_of h3) q.1 q.2 g.1 hs0 fun {to t} ho ha => pe_bm PySem.F.plainAttrs_list PySem.F.slot_list_index PySem.F.type_list_index (mt_indexD (by have := units_of hx.room; omega)) ho ha (hfew := few1 h5) (hline := h1) (hs := hs0)
      exact ⟨pe, s_truth pe (by intro _; rfl)⟩
    · cases h
  | .lc elt vs tg it cs, X, fc, e, hx, hf, h => by
    simp only [ckE] at h
    split at h
    · rename_i el tge ite ifs as scope pos
      simp only [Bool.and_eq_true, decide_eq_true_eq, List.all_eq_true] at h
      obtain ⟨⟨⟨⟨⟨rfl, h1⟩, h2⟩, h3⟩, h4⟩, h5, h6, h7⟩ := h
      have gi := sndI it X fc tge ite hx hf h4
      have pe : PE X (.ListComp el [⟨tge, ite, ifs, 0⟩] scope pos) (rdE X.K BI C (.lc elt vs tg it cs)) := by
        have pe := fun {pos} => s_lcE (pos := pos) (elt' := elt) (cs' := cs) (elt := el) (ifs := ifs) hx.calm hx.nodup gi.1 (blkOk_by h1) (by rw [map_snd]; exact fun i hi => List.contains_iff_mem.mp (h2 i hi))
          (fun s H A cl fp => tg_of (X := X.blk s H scope (compEnvC scope cl A X.env) fp) hx.nodup hx.calm (fun x q => q) h5)
          (fun s H A cl fp => (sndA cs (X.blk s H scope (compEnvC scope cl A X.env) fp) _ ifs (xok_blk hx _ _ _ _ _) (fun x q => q) h6).cs h3)
          (fun s H A cl fp => (sndE elt (X.blk s H scope (compEnvC scope cl A X.env) fp) _ el (xok_blk hx _ _ _ _ _) (fun x q => q) h7).1) (gi.2 _)
        rw [map_snd] at pe
        exact pe
      exact ⟨pe, s_truth pe (by intro _; rfl)⟩
    · cases h
  | .lc2 elt vs tg it cs vs2 tg2 it2 cs2, X, fc, e, hx, hf, h => by
    simp only [ckE] at h
    split at h
    · rename_i el tge ite ifs as tge2 ite2 ifs2 as2 scope pos
      simp only [Bool.and_eq_true, decide_eq_true_eq, List.all_eq_true] at h
      obtain ⟨⟨⟨⟨⟨⟨⟨⟨⟨rfl, rfl⟩, h1⟩, h2⟩, h22⟩, h23⟩, h3⟩, h32⟩, h4⟩, h5, h52, h42, h6, h62, h7⟩ := h
      have gi := sndI it X fc tge ite hx hf h4
      have hg := fun (s : Shared) (H : Hp) (A : Addr) (cl : List (Str × Addr)) (fp : List Addr) => tg_of (BI := BI) (X := X.blk s H scope (compEnvC scope cl A X.env) fp) hx.nodup hx.calm (fun x q => q) h5
      have hg2 := fun (s : Shared) (H : Hp) (A : Addr) (cl : List (Str × Addr)) (fp : List Addr) => tg_of (BI := BI) (X := X.blk s H scope (compEnvC scope cl A X.env) fp) hx.nodup hx.calm (fun x q => q) h52
      have ht := fun (s : Shared) (H : Hp) (A : Addr) (cl : List (Str × Addr)) (fp : List Addr) => (sndA cs (X.blk s H scope (compEnvC scope cl A X.env) fp) _ ifs (xok_blk hx _ _ _ _ _) (fun x q => q) h6).cs h3
      have ht2 := fun (s : Shared) (H : Hp) (A : Addr) (cl : List (Str × Addr)) (fp : List Addr) => (sndA cs2 (X.blk s H scope (compEnvC scope cl A X.env) fp) _ ifs2 (xok_blk hx _ _ _ _ _) (fun x q => q) h62).cs h32
      have hi2 := fun (s : Shared) (H : Hp) (A : Addr) (cl : List (Str × Addr)) (fp : List Addr) => (sndI it2 (X.blk s H scope (compEnvC scope cl A X.env) fp) _ tge2 ite2 (xok_blk hx _ _ _ _ _) (fun x q => q) h42)
      have he := fun (s : Shared) (H : Hp) (A : Addr) (cl : List (Str × Addr)) (fp : List Addr) => (sndE elt (X.blk s H scope (compEnvC scope cl A X.env) fp) _ el (xok_blk hx _ _ _ _ _) (fun x q => q) h7).1
      have pe : PE X (.ListComp el [⟨tge, ite, ifs, 0⟩, ⟨tge2, ite2, ifs2, 0⟩] scope pos) (rdE X.K BI C (.lc2 elt vs tg it cs vs2 tg2 it2 cs2)) := by
        have c2 : ∀ i ∈ tgS tg, i ∈ (vs.map fun i => (X.N.getD i "", i)).map (·.2) := by rw [map_snd]; exact fun i hi => List.contains_iff_mem.mp (h2 i hi)
        have c3 : ∀ i ∈ vs2, i ∈ (vs.map fun i => (X.N.getD i "", i)).map (·.2) := by rw [map_snd]; exact fun i hi => List.contains_iff_mem.mp (h23 i hi)
        have w := s_lc2 (X := X) (BI := BI) (C := C) (elt := el) (tge := tge) (iter := ite) (tge2 := tge2) (iter2 := ite2) (ifs := ifs) (ifs2 := ifs2) (scope := scope) (elt' := elt) (it' := it) (it2' := it2) (cs' := cs) (cs2' := cs2) c2 (fun i hi => List.contains_iff_mem.mp (h22 i hi)) c3
        have pe := pe_imp (pe_lc2 (pos := pos) (vs1 := vs2) (g := rdTg X.K BI tg) (g1 := rdTg X.K BI tg2) (tt := rdC X.K BI C cs) (tt1 := rdC X.K BI C cs2) (wi1 := rdI X.K BI C it2) (te := rdE X.K BI C elt) hx.calm hx.nodup gi.1 (blkOk_by h1) c3 hg ht (fun s H A cl fp => (hi2 s H A cl fp).1) hg2 ht2 he (gi.2 _) (foldedAll h42)) w
        rw [map_snd] at pe
        exact pe
      exact ⟨pe, s_truth pe (by intro _; rfl)⟩
    · cases h
  | .listI it, X, fc, e, hx, hf, h => by
    simp only [ckE] at h
    split at h
    · rename_i x p y pos
      simp only [Bool.and_eq_true, decide_eq_true_eq] at h
      obtain ⟨⟨⟨⟨rfl, h1⟩, h2⟩, h3⟩, h4⟩ := h
      have pe : PE X (.Call (.Name "list" p) [y] [] pos) (rdE X.K BI C (.listI it)) := by
        cases it with
        | rng1 a =>
          simp only [ckI] at h4
          split at h4
          · simp only [Bool.and_eq_true, decide_eq_true_eq] at h4
            obtain ⟨⟨⟨⟨rfl, g1⟩, g2⟩, g3⟩, g4⟩ := h4
            exact s_lst1 hx.calm (gl_of h2) (bi_in hx h1) (gl_of g2) (bi_in hx g1) (sndE a X fc _ hx hf g4).1 (star_of g3)
          · cases h4
        | rng2 a b =>
          simp only [ckI] at h4
          split at h4
          · rename_i z u _
            simp only [Bool.and_eq_true, decide_eq_true_eq] at h4
            obtain ⟨⟨⟨⟨⟨rfl, g1⟩, g2⟩, g3⟩, g4⟩, g5, g6⟩ := h4
            exact s_lst2 hx.calm (gl_of h2) (bi_in hx h1) (gl_of g2) (bi_in hx g1) (sndE a X fc _ hx hf g5).1 (sndE b X fc _ hx hf g6).1 (star_of g3) (star_of g4)
          · cases h4
        | _ => cases h3
      exact ⟨pe, s_truth pe (by intro _; rfl)⟩
    · cases h
  | .tupI it, X, fc, e, hx, hf, h => by
    simp only [ckE] at h
    split at h
    · rename_i x p y pos
      simp only [Bool.and_eq_true, decide_eq_true_eq] at h
      obtain ⟨⟨⟨⟨rfl, h1⟩, h2⟩, h3⟩, h4⟩ := h
      have pe : PE X (.Call (.Name "tuple" p) [y] [] pos) (rdE X.K BI C (.tupI it)) := by
        cases it with
        | rng1 a =>
          simp only [ckI] at h4
          split at h4
          · simp only [Bool.and_eq_true, decide_eq_true_eq] at h4
            obtain ⟨⟨⟨⟨rfl, g1⟩, g2⟩, g3⟩, g4⟩ := h4
            exact s_tup1 hx.calm (gl_of h2) (bi_in hx h1) (gl_of g2) (bi_in hx g1) (sndE a X fc _ hx hf g4).1 (star_of g3)
          · cases h4
        | rng2 a b =>
          simp only [ckI] at h4
          split at h4
          · rename_i z u _
            simp only [Bool.and_eq_true, decide_eq_true_eq] at h4
            obtain ⟨⟨⟨⟨⟨rfl, g1⟩, g2⟩, g3⟩, g4⟩, g5, g6⟩ := h4
            exact s_tup2 hx.calm (gl_of h2) (bi_in hx h1) (gl_of g2) (bi_in hx g1) (sndE a X fc _ hx hf g5).1 (sndE b X fc _ hx hf g6).1 (star_of g3) (star_of g4)
          · cases h4
        | _ => cases h3
      exact ⟨pe, s_truth pe (by intro _; rfl)⟩
    · cases h
  | .sset a, X, fc, e, hx, hf, h => by
    simp only [ckE] at h
    split at h
    · rename_i x p z q y pos pos'
      simp only [Bool.and_eq_true, decide_eq_true_eq] at h
      obtain ⟨⟨⟨⟨⟨⟨⟨rfl, rfl⟩, h1⟩, h2⟩, h3⟩, h4⟩, h5⟩, h6⟩ := h
      have g := (sndE a X fc _ hx hf h6).1
      have pe := fun {p q pos pos'} => s_sset (p := p) (q := q) (pos := pos) (pos' := pos') hx.calm (units_of hx.room) (gl_of h3) (bi_in hx h1) (gl_of h4) (bi_in hx h2) g (star_of h5)
      exact ⟨pe, s_truth pe (by intro _; rfl)⟩
    · cases h
  | .bad, X, fc, e, hx, hf, h => ⟨⟨fun pins s σ H Q I ⟨_, _, _, _, _, _, z, _⟩ => False.elim z⟩, ⟨fun pins s σ H Q I ⟨_, _, _, _, _, _, z, _⟩ => False.elim z⟩⟩
theorem sndA {T : Tab} {BI : BoxI} {C : Ctx} {n : Nat} : ∀ (es' : Es) (X : Cx) (fc : Str → Bool) (l : List Expr), XOk T BI C n X → (∀ x, fc x = true → X.fn x = true) → ckA T X.N X.env.scope fc es' l = true → GdA X BI C es' l
  | .nil, X, fc, l, hx, hf, h => by
    simp only [ckA] at h
    split at h
    · exact ⟨s_nil, fun e z => (by cases z), rfl, fun z => absurd rfl z, fun z => absurd rfl z, fun _ => s_c0⟩
    · cases h
  | .cons a es, X, fc, l, hx, hf, h => by
    simp only [ckA] at h
    split at h
    · rename_i x xs
      simp only [Bool.and_eq_true] at h
      obtain ⟨h1, h2, h3⟩ := h
      have ga := sndE a X fc _ hx hf h2
      have gs := sndA es X fc _ hx hf h3
      have len : (x :: xs).length = esLen (.cons a es) := by rw [List.length_cons, gs.len]; rfl
      refine ⟨s_cons ga.1 gs.pa (star_of h1), fun e z => ?_, len, fun _ pos => ?_, fun _ pos => ?_, fun hl => ?_⟩
      · rcases List.mem_cons.mp z with rfl | z
        · exact h1
        · exact gs.ns e z
      · cases xs with
        | nil =>
          cases es with
          | nil => exact ⟨s_and1 ga.1, s_tand1 ga.2⟩
          | cons _ _ => have := gs.len; cases this
        | cons y ys =>
          cases es with
          | nil => have := gs.len; cases this
          | cons b bs =>
            obtain ⟨p1, p2⟩ := gs.land (by simp) pos
            exact ⟨s_and2 ga.1 p1, s_tand2 ga.2 p2⟩
      · cases xs with
        | nil =>
          cases es with
          | nil => exact ⟨s_or1 ga.1, s_tor1 ga.2⟩
          | cons _ _ => have := gs.len; cases this
        | cons y ys =>
          cases es with
          | nil => have := gs.len; cases this
          | cons b bs =>
            obtain ⟨p1, p2⟩ := gs.lor (by simp) pos
            exact ⟨s_or2 ga.1 p1, s_tor2 ga.2 p2⟩
      · cases xs with
        | cons y ys => simp at hl
        | nil =>
          cases es with
          | nil => exact s_c1 ga.2
          | cons _ _ => have := gs.len; cases this
    · cases h
theorem sndO {T : Tab} {BI : BoxI} {C : Ctx} {n : Nat} : ∀ (o : Eo) (X : Cx) (fc : Str → Bool) (oe : Option Expr), XOk T BI C n X → (∀ x, fc x = true → X.fn x = true) → ckO T X.N X.env.scope fc o oe = true → PO X oe (rdO X.K BI C o)
  | .none, X, fc, oe, hx, hf, h => by
    simp only [ckO] at h
    split at h
    · exact s_onone
    · cases h
  | .some a, X, fc, oe, hx, hf, h => by
    simp only [ckO] at h
    split at h
    · exact s_osome (sndE a X fc _ hx hf h).1
    · cases h
theorem sndI {T : Tab} {BI : BoxI} {C : Ctx} {n : Nat} : ∀ (it : DD.It) (X : Cx) (fc : Str → Bool) (tge e : Expr), XOk T BI C n X → (∀ x, fc x = true → X.fn x = true) → ckI T X.N X.env.scope fc (isTupE tge) it e = true → PI X tge e (rdI X.K BI C it) ∧ ∀ env x, foldedSetIterable e env x = pure x
  | .seq a, X, fc, tge, e, hx, hf, h => by
    simp only [ckI, Bool.and_eq_true] at h
    refine ⟨s_seq (sndE a X fc _ hx hf h.2).1, fun env x => ?_⟩
    have h1 := h.1
    cases e <;> first | rfl | cases h1
  | .rng1 a, X, fc, tge, e, hx, hf, h => by
    simp only [ckI] at h
    split at h
    · rename_i x p y pos
      simp only [Bool.and_eq_true, decide_eq_true_eq] at h
      obtain ⟨⟨⟨⟨rfl, h1⟩, h2⟩, h3⟩, h4⟩ := h
      exact ⟨s_rng1 (gl_of h2) (bi_in hx h1) (sndE a X fc _ hx hf h4).1 (star_of h3), fun _ _ => rfl⟩
    · cases h
  | .rng2 a b, X, fc, tge, e, hx, hf, h => by
    simp only [ckI] at h
    split at h
    · rename_i x p y z pos
      simp only [Bool.and_eq_true, decide_eq_true_eq] at h
      obtain ⟨⟨⟨⟨⟨rfl, h1⟩, h2⟩, h3⟩, h4⟩, h5, h6⟩ := h
      have e2 : starEach [z] X.env = [(false, eval z X.env)] := star_of h4
      exact ⟨s_rng2 (gl_of h2) (bi_in hx h1) (sndE a X fc _ hx hf h5).1 (sndE b X fc _ hx hf h6).1 ((star_of h3).trans (by rw [e2])) e2, fun _ _ => rfl⟩
    · cases h
  | .rng3 a b c, X, fc, tge, e, hx, hf, h => by
    simp only [ckI] at h
    split at h
    · rename_i x p y z u pos
      simp only [Bool.and_eq_true, decide_eq_true_eq] at h
      obtain ⟨⟨⟨⟨⟨⟨rfl, h1⟩, h2⟩, h3⟩, h4⟩, h5⟩, h6, h7, h8⟩ := h
      exact ⟨s_rng3 (gl_of h2) (bi_in hx h1) (sndE a X fc _ hx hf h6).1 (sndE b X fc _ hx hf h7).1 (sndE c X fc _ hx hf h8).1 ⟨star_of h3, star_of h4, star_of h5⟩, fun _ _ => rfl⟩
    · cases h
  | .enum a, X, fc, tge, e, hx, hf, h => by
    simp only [ckI] at h
    split at h
    · simp only [Bool.and_eq_true, decide_eq_true_eq] at h
      obtain ⟨⟨⟨⟨⟨h0, rfl⟩, h1⟩, h2⟩, h3⟩, h4⟩ := h
      cases tge <;> first | exact Bool.noConfusion (show false = true from h0) | skip
      exact ⟨s_enum (gl_of h2) (bi_in hx h1) (sndE a X fc _ hx hf h4).1 (star_of h3), fun _ _ => rfl⟩
    · cases h
  | .zip a b, X, fc, tge, e, hx, hf, h => by
    simp only [ckI] at h
    split at h
    · simp only [Bool.and_eq_true, decide_eq_true_eq] at h
      obtain ⟨⟨⟨⟨⟨⟨h0, rfl⟩, h1⟩, h2⟩, h3⟩, h4⟩, h5, h6⟩ := h
      cases tge <;> first | exact Bool.noConfusion (show false = true from h0) | skip
      exact ⟨s_zip (gl_of h2) (bi_in hx h1) (sndE a X fc _ hx hf h5).1 (sndE b X fc _ hx hf h6).1 (star_of h3) (star_of h4), fun _ _ => rfl⟩
    · cases h
end
end DD

/-! DD11: the check of statements, sound. -/
namespace DD
open PySem PySem.Spec PyProof.Rows L2 PySem.W

def fnKind (sc : Scope) : Bool := match sc.kind with | .function => true | _ => false
def setDict : Expr → Bool | .SetComp .. => true | .DictComp .. => true | _ => false
def isLC : Expr → Bool | .ListComp .. => true | _ => false
def swB (sc : Scope) (a t : Expr) : Bool := match a with
  | .ListComp _ _ s p => match t with | .Name y py => (sc.names.lookup y == some .local) && (py.line == p.line) && !(s.names.any fun (n, k) => n == y && (k == .local || k == .cell)) | _ => false
  | _ => false
theorem sw_f {sc : Scope} {a t : Expr} {l : Nat} {env : Env} (he : env.scope = sc) (hk : fnKind sc = true) (hd : setDict a = false) (h : swB sc a t = false) : swapsWith a (some t) l env = pure false := by
  subst he
  have hb : env.blockKind = .function := by
    unfold fnKind at hk
    split at hk
    · rename_i q; unfold Env.blockKind; rw [q]; rfl
    · cases hk
  cases a <;> first | rfl | cases hd | skip
  cases t <;> first | rfl | skip
  unfold swapsWith
  simp only [swB] at h
  show (pure _ : Sem Bool) = pure false
  congr 1
  rw [hb]
  show (((true && (env.scope.names.lookup _ == some NameKind.local)) && _) && _) = false
  rw [Bool.true_and]
  exact h
theorem sw_t {sc : Scope} {a t : Expr} {l : Nat} {env : Env} (he : env.scope = sc) (hk : fnKind sc = true) (h : swB sc a t = true) : ∃ y py, t = .Name y py ∧ env.scope.names.lookup y = some .local ∧ swapsWith a (some t) l env = pure true := by
  subst he
  have hf : env.scope.kind = .function := by
    unfold fnKind at hk
    split at hk
    · assumption
    · cases hk
  cases a <;> first | cases h | skip
  cases t <;> first | cases h | skip
  rename_i el gs s p y py
  simp only [swB, Bool.and_eq_true, Bool.not_eq_true'] at h
  have hy : env.scope.names.lookup y = some .local := by
    have := h.1.1
    cases q : env.scope.names.lookup y with
    | none => rw [q] at this; cases this
    | some k => rw [q] at this; cases k <;> first | rfl | cases this
  exact ⟨y, py, rfl, hy, sw_true hf hy h.1.2 h.2⟩
def locNames (sc : Scope) (line : Nat) (ts : List Expr) : List Str := ts.filterMap fun
  | .Name id pos => if sc.names.lookup id == some .local && pos.line == line then some id else none
  | _ => none
def noSwap (sc : Scope) (t a : Expr) : Bool := match t with
  | .Tuple ts _ _ => match a with
    | .Tuple vs _ _ => !(ts.length == 2 || ts.length == 3) || (vs.length != ts.length) || (!(vs.any fun | .Starred .. => true | _ => false) && ((locNames sc ((ts.head?.map (·.pos.line)).getD 0) ts).length != ts.length)) || vs.all (foldedForSure 8)
    | _ => true
  | .List .. => false
  | _ => true
theorem noSwap_of {sc : Scope} {t a : Expr} {env : Env} (he : env.scope = sc) (hk : fnKind sc = true) (h : noSwap sc t a = true) : swappedStores [t] a env = pure none := by
  subst he
  have hb : env.blockKind = .function := by
    unfold fnKind at hk
    split at hk
    · rename_i q; unfold Env.blockKind; rw [q]; rfl
    · cases hk
  cases t <;> first | rfl | cases h | skip
  rename_i ts kt pt
  cases a <;> first | rfl | skip
  rename_i vs kv pv
  simp only [noSwap, Bool.or_eq_true, Bool.and_eq_true, Bool.not_eq_true'] at h
  unfold swappedStores
  simp only
  by_cases c1 : (!(ts.length == 2 || ts.length == 3) || vs.length != ts.length || env.blockKind != .function) = true
  · rw [if_pos c1]
  · rw [if_neg c1]
    split
    · rfl
    · split
      · rfl
      · rename_i c3
        rw [if_pos]
        rcases h with ((h | h) | h) | h
        · exact absurd (by rw [h]; simp) c1
        · exact absurd (by rw [h]; simp) c1
        · exact absurd (by rw [Bool.or_eq_true]; exact .inl h.2) c3
        · exact h
theorem sw_two {x y : Str} {px py pt pt2 : Pos} {kt k2 : Nat} {a b : Expr} {env : Env} (hk : fnKind env.scope = true) (hx : env.scope.names.lookup x = some .local) (hy : env.scope.names.lookup y = some .local) (hl : (py.line == px.line) = true) (hne : (y == x) = false)
    (h1 : notStar a = true) (h2 : notStar b = true) (hf : [a, b].all (foldedForSure 8) = false) (hc : [a, b].all (constantsAlone 8) = false) : swappedStores [.Tuple [.Name x px, .Name y py] kt pt] (.Tuple [a, b] k2 pt2) env = pure (some [x, y]) := by
  have hb : env.blockKind = .function := by
    unfold fnKind at hk
    split at hk
    · rename_i q; unfold Env.blockKind; rw [q]; rfl
    · cases hk
  have kx : env.kindOf x = some .local := hx
  have ky : env.kindOf y = some .local := hy
  unfold swappedStores
  simp only [hb]
  refine Eq.trans (if_neg ?_) ?_
  · intro z; exact Bool.noConfusion (show false = true from z)
  have hn : ([a, b].any fun | .Starred .. => true | _ => false) = false := by
    cases a <;> first | exact Bool.noConfusion (show false = true from h1) | (cases b <;> first | rfl | exact Bool.noConfusion (show false = true from h2))
  refine Eq.trans (if_neg ?_) ?_
  · intro z; exact Bool.noConfusion (hn.symm.trans z)
  have hnm : ([Expr.Name x px, Expr.Name y py].filterMap fun
    | .Name id pos => if env.kindOf id == some .local && pos.line == (([Expr.Name x px, Expr.Name y py].head?.map (·.pos.line)).getD 0) then some id else none
    | _ => none) = [x, y] := by
    have e1 : (if (env.kindOf x == some NameKind.local && px.line == px.line) = true then some x else none) = some x := by rw [kx]; simp
    have e2 : (if (env.kindOf y == some NameKind.local && py.line == px.line) = true then some y else none) = some y := by rw [ky, hl]; simp
    have hl' : py.line = px.line := by simpa using hl
    simp [List.filterMap_cons, kx, ky, Expr.pos, hl']
  refine Eq.trans (if_neg ?_) ?_
  · intro z
    rw [Bool.or_eq_true] at z
    have e : ∀ l : List Str, l = [x, y] → ((l.length != 2) = true ∨ (l.eraseDups.length != l.length) = true) → False := by
      intro l e z
      subst e
      have q : [x, y].eraseDups = [x, y] := by
        rw [List.eraseDups_cons]
        simp only [List.filter_cons, List.filter_nil, hne]
        rfl
      rw [q] at z
      rcases z with z | z <;> cases z
    exact e _ hnm z
  refine Eq.trans (if_neg ?_) (Eq.trans (if_neg ?_) ?_)
  · intro z; exact Bool.noConfusion (hf.symm.trans z)
  · intro z; exact Bool.noConfusion (hc.symm.trans z)
  show (pure (some _) : Sem (Option (List Str))) = _
  exact congrArg (fun l => (pure (some l) : Sem (Option (List Str)))) hnm
def isFrz : S → Option Nat
  | .frz i => some i
  | _ => none
def okAug : Operator → Bool
  | .Add => true | .Sub => true | _ => false
mutual
def ckS (T : Tab) (N : List Str) (sc : Scope) (fc : Str → Bool) : S → Stmt → Bool
  | .asg tg e, st => match st with
    | .Assign [t] a pos => fnKind sc && !setDict a && noSwap sc t a && ckTg N sc fc tg t && ckE T N sc fc e a
    | _ => false
  | .own i e, st => match st with
    | .Assign [t] a pos => fnKind sc && !setDict a && noSwap sc t a && nmOkB N sc fc i t && ckE T N sc fc e a
    | _ => false
  | .frz _, _ => false
  | .par2 i j oi oj a b, st => match st with
    | .Assign [.Tuple [.Name x px, .Name y py] kt pt] (.Tuple [u, v] k2 pt2) pos => fnKind sc && decide (N[i]? = some x) && decide (N[j]? = some y) && decide (i ≠ j) && decide (sc.names.lookup x = some .local) && decide (sc.names.lookup y = some .local) &&
        (py.line == px.line) && !(y == x) && notStar u && notStar v && !([u, v].all (foldedForSure 8)) && !([u, v].all (constantsAlone 8)) && (ckE T N sc fc a u && ckE T N sc fc b v)
    | _ => false
  | .aug i op e, st => match st with
    | .AugAssign t o a pos => decide (op = o) && okAug op && nmOkB N sc fc i t && ckE T N sc fc e a
    | _ => false
  | .app i e, st => match st with
    | .Expr (.Call (.Attribute (.Name x p) m ap) [y] [] cp) pos => decide (m = "append") && (ap.endLine == cp.line) && decide (N[i]? = some x) && visB sc x && nmB x && notStar y && ckE T N sc fc e y
    | _ => false
  | .ext i e, st => match st with
    | .Expr (.Call (.Attribute (.Name x p) m ap) [y] [] cp) pos => decide (m = "extend") && (ap.endLine == cp.line) && decide (N[i]? = some x) && visB sc x && nmB x && notStar y && ckE T N sc fc e y
    | _ => false
  | .setI i ix e, st => match st with
    | .Assign [.Subscript (.Name x p) y pp] a pos => !setDict a && !isLC a && notSlice y && decide (N[i]? = some x) && visB sc x && nmB x && (ckE T N sc fc ix y && ckE T N sc fc e a)
    | _ => false
  | .drop e, st => match st with
    | .Expr a pos => !setDict a && !isLC a && ckE T N sc fc e a
    | _ => false
  | .ifs c a b, st => match st with
    | .If e p q pos => ckE T N sc fc c e && (ckSs T N sc fc a p && ckSs T N sc fc b q)
    | _ => false
  | .forS tg it b, st => match st with
    | .For t e p [] pos => ckTg N sc fc tg t && ckI T N sc fc (isTupE t) it e && ckSs T N sc fc b p
    | _ => false
  | .whl c b, st => match st with
    | .While e p [] pos => ckE T N sc fc c e && ckSs T N sc fc b p
    | _ => false
  | .ret e, st => match st with
    | .Return (some a) pos => ckE T N sc fc e a
    | _ => false
  | .retN, st => match st with | .Return none pos => true | _ => false
  | .brk, st => match st with | .Break pos => true | _ => false
  | .cnt, st => match st with | .Continue pos => true | _ => false
  | .pass, st => match st with | .Pass pos => true | _ => false
def ckSs (T : Tab) (N : List Str) (sc : Scope) (fc : Str → Bool) : Ss → List Stmt → Bool
  | .nil, l => match l with | [] => true | _ => false
  | .cons s ss, l => match isFrz s with
    | some _ => ckSs T N sc fc ss l
    | none => match l with
      | x :: xs => ckS T N sc fc s x && ckSs T N sc fc ss xs
      | [] => false
end
/-- a list display over a walk, stored on one line -/
theorem sndLc {T : Tab} {BI : BoxI} {C : Ctx} {n : Nat} {X : Cx} {fc : Str → Bool} {e' : Ex} {a : Expr} {i : Nat} {y : Str} {py spos : Pos} (hx : XOk T BI C n X) (hf : ∀ x, fc x = true → X.fn x = true) (h : ckE T X.N X.env.scope fc e' a = true) (hl : isLC a = true) (hy : X.N[i]? = some y) (hyl : X.env.scope.names.lookup y = some .local)
    (hsw : swapsWith a (some (.Name y py)) spos.line X.env = pure true) : ∃ te, PS X (.Assign [.Name y py] a spos) (tAsg te (gName i)) ∧ ∀ σ H Q, rdE X.K BI C e' σ H Q → te σ H Q := by
  cases e' with
  | lc elt vs tg it cs =>
    simp only [ckE] at h
    split at h
    · rename_i el tge ite ifs as scope pos
      simp only [Bool.and_eq_true, decide_eq_true_eq, List.all_eq_true] at h
      obtain ⟨⟨⟨⟨⟨rfl, h1⟩, h2⟩, h3⟩, h4⟩, h5, h6, h7⟩ := h
      have gi := sndI it X fc tge ite hx hf h4
      have hg := fun (s : Shared) (H : Hp) (A : Addr) (cl : List (Str × Addr)) (fp : List Addr) => tg_of (BI := BI) (X := X.blk s H scope (compEnvC scope cl A X.env) fp) hx.nodup hx.calm (fun x q => q) h5
      have ht := fun (s : Shared) (H : Hp) (A : Addr) (cl : List (Str × Addr)) (fp : List Addr) => (sndA cs (X.blk s H scope (compEnvC scope cl A X.env) fp) _ ifs (xok_blk hx _ _ _ _ _) (fun x q => q) h6).cs h3
      have he := fun (s : Shared) (H : Hp) (A : Addr) (cl : List (Str × Addr)) (fp : List Addr) => (sndE elt (X.blk s H scope (compEnvC scope cl A X.env) fp) _ el (xok_blk hx _ _ _ _ _) (fun x q => q) h7).1
      refine ⟨_, ps_setLc (g := rdTg X.K BI tg) (tt := rdC X.K BI C cs) (te := rdE X.K BI C elt) hx.calm hx.nodup hy hyl hsw gi.1 (blkOk_by h1) hg ht he (gi.2 _), fun σ H Q q => ?_⟩
      have k := s_lc (C := C) hx.calm hx.nodup gi.1 (blkOk_by h1) (by rw [map_snd]; exact fun i hi => List.contains_iff_mem.mp (h2 i hi)) hg ht he σ H Q
      rw [map_snd] at k ⊢
      exact k q
    · cases h
  | lc2 elt vs tg it cs vs2 tg2 it2 cs2 =>
    simp only [ckE] at h
    split at h
    · rename_i el tge ite ifs as tge2 ite2 ifs2 as2 scope pos
      simp only [Bool.and_eq_true, decide_eq_true_eq, List.all_eq_true] at h
      obtain ⟨⟨⟨⟨⟨⟨⟨⟨⟨rfl, rfl⟩, h1⟩, h2⟩, h22⟩, h23⟩, h3⟩, h32⟩, h4⟩, h5, h52, h42, h6, h62, h7⟩ := h
      have gi := sndI it X fc tge ite hx hf h4
      have hg := fun (s : Shared) (H : Hp) (A : Addr) (cl : List (Str × Addr)) (fp : List Addr) => tg_of (BI := BI) (X := X.blk s H scope (compEnvC scope cl A X.env) fp) hx.nodup hx.calm (fun x q => q) h5
      have hg2 := fun (s : Shared) (H : Hp) (A : Addr) (cl : List (Str × Addr)) (fp : List Addr) => tg_of (BI := BI) (X := X.blk s H scope (compEnvC scope cl A X.env) fp) hx.nodup hx.calm (fun x q => q) h52
      have ht := fun (s : Shared) (H : Hp) (A : Addr) (cl : List (Str × Addr)) (fp : List Addr) => (sndA cs (X.blk s H scope (compEnvC scope cl A X.env) fp) _ ifs (xok_blk hx _ _ _ _ _) (fun x q => q) h6).cs h3
      have ht2 := fun (s : Shared) (H : Hp) (A : Addr) (cl : List (Str × Addr)) (fp : List Addr) => (sndA cs2 (X.blk s H scope (compEnvC scope cl A X.env) fp) _ ifs2 (xok_blk hx _ _ _ _ _) (fun x q => q) h62).cs h32
      have hi2 := fun (s : Shared) (H : Hp) (A : Addr) (cl : List (Str × Addr)) (fp : List Addr) => (sndI it2 (X.blk s H scope (compEnvC scope cl A X.env) fp) _ tge2 ite2 (xok_blk hx _ _ _ _ _) (fun x q => q) h42)
      have he := fun (s : Shared) (H : Hp) (A : Addr) (cl : List (Str × Addr)) (fp : List Addr) => (sndE elt (X.blk s H scope (compEnvC scope cl A X.env) fp) _ el (xok_blk hx _ _ _ _ _) (fun x q => q) h7).1
      have c2 : ∀ i ∈ tgS tg, i ∈ (vs.map fun i => (X.N.getD i "", i)).map (·.2) := by rw [map_snd]; exact fun i hi => List.contains_iff_mem.mp (h2 i hi)
      have c3 : ∀ i ∈ vs2, i ∈ (vs.map fun i => (X.N.getD i "", i)).map (·.2) := by rw [map_snd]; exact fun i hi => List.contains_iff_mem.mp (h23 i hi)
      refine ⟨_, ps_setLc2 (vs1 := vs2) (g := rdTg X.K BI tg) (g1 := rdTg X.K BI tg2) (tt := rdC X.K BI C cs) (tt1 := rdC X.K BI C cs2) (wi1 := rdI X.K BI C it2) (te := rdE X.K BI C elt) hx.calm hx.nodup hy hyl hsw gi.1 (blkOk_by h1) c3 hg ht (fun s H A cl fp => (hi2 s H A cl fp).1) hg2 ht2 he (gi.2 _) (foldedAll h42), fun σ H Q q => ?_⟩
      have w := s_lc2 (X := X) (BI := BI) (C := C) (elt := el) (tge := tge) (iter := ite) (tge2 := tge2) (iter2 := ite2) (ifs := ifs) (ifs2 := ifs2) (scope := scope) (elt' := elt) (it' := it) (it2' := it2) (cs' := cs) (cs2' := cs2) c2 (fun i hi => List.contains_iff_mem.mp (h22 i hi)) c3 σ H Q
      rw [map_snd] at w ⊢
      exact w q
    · cases h
  | _ => cases a <;> first | exact Bool.noConfusion (show false = true from hl) | exact Bool.noConfusion (show false = true from h)
theorem setDict_ck {T : Tab} {N : List Str} {sc : Scope} {fc : Str → Bool} : True := trivial
theorem sole1 {X : Cx} {tg : Tg} {N : List Str} {sc : Scope} {fc : Str → Bool} {t : Expr} (h : ckTg N sc fc tg t = true) : (assignEach [t] X.env).map (·.2) = [assign t X.env] := by
  cases t <;> first | rfl | (cases tg <;> exact Bool.noConfusion (show false = true from h))
theorem nm1 {X : Cx} {i : Nat} {N : List Str} {sc : Scope} {fc : Str → Bool} {t : Expr} (h : nmOkB N sc fc i t = true) : ∃ y p, t = .Name y p ∧ N[i]? = some y := by
  cases t <;> first | exact Bool.noConfusion (show false = true from h) | skip
  simp only [nmOkB, Bool.and_eq_true, decide_eq_true_eq] at h
  exact ⟨_, _, rfl, h.1⟩
theorem noLC_drop {a : Expr} {l : Nat} {env : Env} (h1 : setDict a = false) (h2 : isLC a = false) : swapsWith a none l env = pure false := by
  cases a <;> first | rfl | exact Bool.noConfusion (show true = false from h1) | exact Bool.noConfusion (show true = false from h2)
theorem noLC_sole {a : Expr} {t : Option Expr} {l : Nat} {env : Env} (h1 : setDict a = false) (h2 : isLC a = false) : swapsWith a t l env = pure false := by
  cases a <;> first | rfl | exact Bool.noConfusion (show true = false from h1) | exact Bool.noConfusion (show true = false from h2)
theorem noLC_sole' {a t : Expr} {l : Nat} {env : Env} (h1 : setDict a = false) (h2 : isLC a = false) : swapsWithSole [t] a l env = pure false := noLC_sole h1 h2
theorem assign_ix {o i : Expr} {pos : Pos} {env : Env} {v : Value} (h : notSlice i = true) : assign (.Subscript o i pos) env v = (do
      let ov ← holding [v] (eval o env)
      let iv ← holding [v, ov] (eval i env)
      standAt pos
      holding [v, ov, iv] (setItem ov iv v)
      release [v, ov, iv] []) := by
  cases i <;> first | rfl | exact Bool.noConfusion (show false = true from h)
theorem isLC_sw {sc : Scope} {a t : Expr} (h : swB sc a t = true) : isLC a = true := by
  cases a <;> first | rfl | exact Bool.noConfusion (show false = true from h)
mutual
theorem sndS {T : Tab} {BI : BoxI} {C : Ctx} {n : Nat} : ∀ (s : S) (X : Cx) (fc : Str → Bool) (st : Stmt), XOk T BI C n X → (∀ x, fc x = true → X.fn x = true) → ckS T X.N X.env.scope fc s st = true → PS X st (rdS X.K BI C s)
  | .asg tg e, X, fc, st, hx, hf, h => by
    simp only [ckS] at h
    split at h
    · rename_i t a pos
      simp only [Bool.and_eq_true, Bool.not_eq_true'] at h
      obtain ⟨⟨⟨⟨h1, h2⟩, h3⟩, h4⟩, h5⟩ := h
      cases hb : swB X.env.scope a t with
      | false => exact s_asg (sndE e X fc _ hx hf h5).1 (tg_of hx.nodup hx.calm hf h4) (sw_f rfl h1 h2 hb) (noSwap_of rfl h1 h3) (sole1 h4)
      | true =>
        obtain ⟨y, py, rfl, hy, hw⟩ := sw_t (l := pos.line) rfl h1 hb
        cases tg with
        | tp is => exact Bool.noConfusion (show false = true from h4)
        | nm i =>
          obtain ⟨_, _, e1, e2⟩ := nm1 (X := X) (show nmOkB X.N X.env.scope fc i (Expr.Name y py) = true from h4)
          cases e1
          obtain ⟨te, p1, p2⟩ := sndLc (spos := pos) (BI := BI) (C := C) hx hf h5 (isLC_sw hb) e2 hy hw
          exact ps_imp p1 (w_asg p2 fun _ _ _ _ h => w_nm h)
    · cases h
  | .own i e, X, fc, st, hx, hf, h => by
    simp only [ckS] at h
    split at h
    · rename_i t a pos
      simp only [Bool.and_eq_true, Bool.not_eq_true'] at h
      obtain ⟨⟨⟨⟨h1, h2⟩, h3⟩, h4⟩, h5⟩ := h
      cases hb : swB X.env.scope a t with
      | false => exact s_own hx.nodup (sndE e X fc _ hx hf h5).1 (nmOk_of hf h4) (sw_f rfl h1 h2 hb) (noSwap_of rfl h1 h3)
      | true =>
        obtain ⟨y, py, rfl, hy, hw⟩ := sw_t (l := pos.line) rfl h1 hb
        obtain ⟨_, _, e1, e2⟩ := nm1 (X := X) h4
        cases e1
        obtain ⟨te, p1, p2⟩ := sndLc (spos := pos) (BI := BI) (C := C) hx hf h5 (isLC_sw hb) e2 hy hw
        exact ps_imp p1 (w_own p2)
    · cases h
  | .frz i, X, fc, st, hx, hf, h => by simp only [ckS] at h; cases h
  | .par2 i j oi oj a b, X, fc, st, hx, hf, h => by
    simp only [ckS] at h
    split at h
    · rename_i x px y py kt pt u v k2 pt2 pos
      simp only [Bool.and_eq_true, Bool.not_eq_true', decide_eq_true_eq] at h
      obtain ⟨⟨⟨⟨⟨⟨⟨⟨⟨⟨⟨⟨h0, h1⟩, h2⟩, h3⟩, h4⟩, h5⟩, h6⟩, h7⟩, h8⟩, h9⟩, h10⟩, h11⟩, h12, h13⟩ := h
      exact s_par2 hx.calm hx.nodup h1 h2 h3 h4 h5 (sndE a X fc _ hx hf h12).1 (sndE b X fc _ hx hf h13).1 (star_of h8) (star_of h9) (sw_two h0 h4 h5 h6 h7 h8 h9 h10 h11)
    · cases h
  | .aug i op e, X, fc, st, hx, hf, h => by
    simp only [ckS] at h
    split at h
    · simp only [Bool.and_eq_true, decide_eq_true_eq] at h
      obtain ⟨⟨⟨rfl, h1⟩, h2⟩, h3⟩ := h
      refine s_aug hx.nodup (sndE e X fc _ hx hf h3).1 (nmOk_of hf h2) ?_
      cases op <;> first | exact .inl rfl | exact .inr rfl | exact Bool.noConfusion (show false = true from h1)
    · cases h
  | .app i e, X, fc, st, hx, hf, h => by
    simp only [ckS] at h
    split at h
    · simp only [Bool.and_eq_true, decide_eq_true_eq] at h
      obtain ⟨⟨⟨⟨⟨⟨rfl, h1⟩, h2⟩, h3⟩, h4⟩, h5⟩, h6⟩ := h
      have q := nm_of h4
      exact s_app (fun {t} ha => ps_expr (pe_bm PySem.F.plainAttrs_list PySem.F.slot_list_append PySem.F.type_list_append mt_append (pe_var h2 (vis_of h3) q.1 q.2) ha (hfew := few1 h5) (hline := h1) (hs := star_of h5)) (hs := rfl)) (sndE e X fc _ hx hf h6).1 (star_of h5)
    · cases h
  | .ext i e, X, fc, st, hx, hf, h => by
    simp only [ckS] at h
    split at h
    · simp only [Bool.and_eq_true, decide_eq_true_eq] at h
      obtain ⟨⟨⟨⟨⟨⟨rfl, h1⟩, h2⟩, h3⟩, h4⟩, h5⟩, h6⟩ := h
      have q := nm_of h4
      exact s_ext (fun {t} ha => ps_expr (pe_bm PySem.F.plainAttrs_list PySem.F.slot_list_extend PySem.F.type_list_extend mt_extend (pe_var h2 (vis_of h3) q.1 q.2) ha (hfew := few1 h5) (hline := h1) (hs := star_of h5)) (hs := rfl)) (sndE e X fc _ hx hf h6).1 (star_of h5)
    · cases h
  | .setI i ix e, X, fc, st, hx, hf, h => by
    simp only [ckS] at h
    split at h
    · simp only [Bool.and_eq_true, Bool.not_eq_true', decide_eq_true_eq] at h
      obtain ⟨⟨⟨⟨⟨⟨h1, h2⟩, h3⟩, h4⟩, h5⟩, h6⟩, h7, h8⟩ := h
      have q := nm_of h6
      refine s_setI h4 (vis_of h5) q.1 q.2 (sndE e X fc _ hx hf h8).1 (sndE ix X fc _ hx hf h7).1 (fun {g} hg => ps_asg (sndE e X fc _ hx hf h8).1 hg (hs := noLC_sole' h1 h2) (hw := rfl) (h1 := rfl)) (fun {to ti t o} ho hi hs => pg_sub ho hi hs (ha := ?_))
      exact fun v => assign_ix h3
    · cases h
  | .drop e, X, fc, st, hx, hf, h => by
    simp only [ckS] at h
    split at h
    · simp only [Bool.and_eq_true, Bool.not_eq_true'] at h
      exact s_drop (sndE e X fc _ hx hf h.2).1 (noLC_drop h.1.1 h.1.2)
    · cases h
  | .ifs c a b, X, fc, st, hx, hf, h => by
    simp only [ckS] at h
    split at h
    · simp only [Bool.and_eq_true] at h
      exact s_ifs (sndE c X fc _ hx hf h.1).2 (sndSs a X fc _ hx hf h.2.1) (sndSs b X fc _ hx hf h.2.2)
    · cases h
  | .forS tg it b, X, fc, st, hx, hf, h => by
    simp only [ckS] at h
    split at h
    · rename_i t e p pos
      simp only [Bool.and_eq_true] at h
      have gi := sndI it X fc t e hx hf h.1.2
      exact s_for (by rw [hx.xe]; exact PassesOwn.never) hx.calm gi.1 (tg_of hx.nodup hx.calm hf h.1.1) (sndSs b X fc _ hx hf h.2) (gi.2 _)
    · cases h
  | .whl c b, X, fc, st, hx, hf, h => by
    simp only [ckS] at h
    split at h
    · simp only [Bool.and_eq_true] at h
      exact s_whl (by rw [hx.xe]; exact PassesOwn.never) (sndE c X fc _ hx hf h.1).2 (sndSs b X fc _ hx hf h.2)
    · cases h
  | .ret e, X, fc, st, hx, hf, h => by
    simp only [ckS] at h
    split at h
    · exact s_ret (sndE e X fc _ hx hf h).1
    · cases h
  | .retN, X, fc, st, hx, hf, h => by
    simp only [ckS] at h
    split at h
    · exact s_retN
    · cases h
  | .brk, X, fc, st, hx, hf, h => by
    simp only [ckS] at h
    split at h
    · exact s_brk
    · cases h
  | .cnt, X, fc, st, hx, hf, h => by
    simp only [ckS] at h
    split at h
    · exact s_cnt
    · cases h
  | .pass, X, fc, st, hx, hf, h => by
    simp only [ckS] at h
    split at h
    · exact s_pass
    · cases h
theorem sndSs {T : Tab} {BI : BoxI} {C : Ctx} {n : Nat} : ∀ (ss : Ss) (X : Cx) (fc : Str → Bool) (sts : List Stmt), XOk T BI C n X → (∀ x, fc x = true → X.fn x = true) → ckSs T X.N X.env.scope fc ss sts = true → PSs X sts (rdSs X.K BI C ss)
  | .nil, X, fc, sts, hx, hf, h => by
    simp only [ckSs] at h
    split at h
    · exact s_snil
    · cases h
  | .cons s ss, X, fc, sts, hx, hf, h => by
    simp only [ckSs] at h
    split at h
    · rename_i i q
      have e : s = .frz i := by
        cases s <;> first | exact congrArg S.frz (Option.some.inj q) | cases q
      rw [e]
      exact s_frz (sndSs ss X fc _ hx hf h)
    · split at h
      · simp only [Bool.and_eq_true] at h
        exact s_scons (sndS s X fc _ hx hf h.1) (sndSs ss X fc _ hx hf h.2)
      · cases h
end
end DD

/-! DD12: the defs of a program, each by its body in the language; calls by fuel. -/
namespace DD
open PySem PySem.Spec PyProof.Rows L2 PySem.W

structure Fn where
  body : Ss
  sz : Nat
/-- a program: its defs, the defs that are told apart (the draws), from which fuel on, the module's constants -/
structure Pg where
  fns : Nat → Option Fn
  prim : Nat → List Arg → (D → Prop) → Prop
  k0 : Nat
  cst : Nat → Option D
def argV : Arg → Option Vl
  | .d x => some (.d x)
  | .box => some .box
def entry (sz : Nat) (as : List Arg) : En := as.map argV ++ List.replicate (sz - as.length) none
def retE (kd : D → Prop) : Ends := ⟨fun _ => kd .none, kd, fun _ => False, fun _ => False⟩
def callN (P : Pg) : Nat → Nat → List Arg → (D → Prop) → Prop
  | 0, _, _, _ => False
  | n + 1, f, as, kd => match P.fns f with
    | some F => execs ⟨callN P n, P.cst⟩ F.body (entry F.sz as) (retE kd)
    | none => P.k0 ≤ n ∧ P.prim f as kd
def ctx (P : Pg) (n : Nat) : Ctx := ⟨callN P n, P.cst⟩

section
variable {P : Program} {w : World} {K : PySem.W.Frag} {mg : Str → Option Value} {base : Heap}
theorem paired_len {α β : Type} {R : α → β → Prop} : ∀ {as : List α} {bs : List β}, Paired R as bs → as.length = bs.length
  | [], [], .nil => rfl
  | _ :: _, _ :: _, .cons _ t => by rw [List.length_cons, List.length_cons, paired_len t]
theorem paired_at {α β : Type} {R : α → β → Prop} : ∀ {as : List α} {bs : List β} {i : Nat} {a : α}, Paired R as bs → as[i]? = some a → ∃ b, bs[i]? = some b ∧ R a b
  | [], _, _, _, .nil, h => by cases h
  | a :: as, b :: bs, 0, _, .cons r _, h => by cases h; exact ⟨b, rfl, r⟩
  | a :: as, b :: bs, i + 1, _, .cons _ t, h => paired_at (i := i) t h
theorem entry_at {sz i : Nat} {as : List Arg} {val : Vl} (h : (entry sz as)[i]? = some (some val)) : ∃ a, as[i]? = some a ∧ argV a = some val := by
  unfold entry at h
  rw [List.getElem?_append] at h
  split at h
  · rw [List.getElem?_map] at h
    cases q : as[i]? with
    | none => rw [q] at h; cases h
    | some a => rw [q] at h; exact ⟨a, rfl, Option.some.inj h⟩
  · rw [List.getElem?_replicate] at h
    split at h <;> cases h
theorem start_at {N : List Str} {vs : List V} {i : Nat} {v : V} (h : vs[i]? = some v) : (L2.start N vs)[i]? = some (some v) := by
  unfold L2.start
  rw [List.getElem?_append_left (by rw [List.length_map]; exact (List.getElem?_eq_some_iff.mp h).1), List.getElem?_map, h]
  rfl
/-- at a def's entry -/
theorem rel_entry {BI : BoxI} {N : List Str} {O : ASet} {bx : Bx} {H : Hp} {as : List Arg} {vs : List V} (hl : vs.length ≤ N.length) (ha : Paired (ArgOk K O bx H) as vs) (hb : ∀ B C, bx = some (B, C) → O B ∧ O C ∧ BI.ok H B C) (ht : ∀ b, O b → H b ≠ none) :
    Rel K BI (fun b => O b ∧ ¬ isBx bx b) (isBx bx) bx (L2.start N vs) H (entry N.length as) := by
  have bO : ∀ b, isBx bx b → O b := fun b ⟨B, C, q, z⟩ => by
    obtain ⟨h1, h2, _⟩ := hb B C q
    rcases z with rfl | rfl
    · exact h1
    · exact h2
  have he : hid (fun b => (O b ∧ ¬ isBx bx b) ∨ isBx bx b) H = hid O H := hid_eq fun b => ⟨fun z => z.elim (·.1) (bO b), fun z => by
    by_cases q : isBx bx b
    · exact .inr q
    · exact .inl ⟨z, q⟩⟩
  have len := paired_len ha
  have nm : ∀ {i : Nat} {val : Vl}, (entry N.length as)[i]? = some (some val) → (∃ x v, val = .d x ∧ (L2.start N vs)[i]? = some (some v) ∧ Dd K (hid O H) v x) ∨ (val = .box ∧ ∃ B C, bx = some (B, C) ∧ (L2.start N vs)[i]? = some (some (.ref B))) := by
    intro i val q
    obtain ⟨a, h1, h2⟩ := entry_at q
    obtain ⟨v, h3, h4⟩ := paired_at ha h1
    cases a with
    | d x => exact .inl ⟨x, v, (Option.some.inj h2).symm, start_at h3, h4⟩
    | box =>
      obtain ⟨B, C, q, rfl⟩ := h4
      exact .inr ⟨(Option.some.inj h2).symm, B, C, q, start_at h3⟩
  refine ⟨?_, fun i x q => ?_, fun i x q => ?_, fun i j x y _ q _ => ?_, fun i q => ?_, fun i q => ?_, fun B C q => ?_, fun b q => ?_, fun b q => q.2⟩
  · unfold entry L2.start
    simp only [List.length_append, List.length_map, List.length_replicate, len]
  · rcases nm q with ⟨y, v, e, h1, h2⟩ | ⟨e, _⟩
    · cases e; exact ⟨v, h1, by rw [he]; exact h2⟩
    · cases e
  · rcases nm q with ⟨y, v, e, _⟩ | ⟨e, _⟩ <;> cases e
  · rcases nm q with ⟨y, v, e, _⟩ | ⟨e, _⟩ <;> cases e
  · rcases nm q with ⟨y, v, e, _⟩ | ⟨_, h⟩
    · cases e
    · exact h
  · rcases nm q with ⟨y, v, e, _⟩ | ⟨e, _⟩ <;> cases e
  · exact ⟨⟨B, C, q, .inl rfl⟩, ⟨B, C, q, .inr rfl⟩, (hb B C q).2.2⟩
  · rcases q with q | q
    · exact ht b q.1
    · exact ht b (bO b q)
/-- what stands of a def of the table -/
structure DefOk (P : Program) (w : World) (K : PySem.W.Frag) (mg : Str → Option Value) (base : Heap) (T : Tab) (BI : BoxI) (G : Pg) (f : Nat) (x : Str) (ar : Nat) : Prop where
  ex : ∃ fa fd ps, mg x = some (.ref fa) ∧ PySem.W.keepIn K (.ref fa) = true ∧ Binds K fd ps [] ∧ ps.length = ar ∧
    ((∃ F st N, G.fns f = some F ∧ Fun K x x st fa fd ∧ FnScope N ps (defScope st) ∧ N.length = F.sz ∧ ckSs T N (defScope st) (fun _ => true) F.body (defBody st) = true) ∨
     (G.fns f = none ∧ FnOk P w K mg base CX0 (G.k0 + 1) fa fd ps (spF K BI (fun f as kd => G.prim f as kd) f ar)))
/-- the built-ins that the texts name are not the module's, its constants are as told -/
structure Names (K : PySem.W.Frag) (mg : Str → Option Value) (T : Tab) (G : Pg) : Prop where
  bis : ∀ x ∈ T.bis, mg x = none
  cst : ∀ c x, T.csts[c]? = some x → ∃ u v d, mg x = some u ∧ RelV v u ∧ (∀ H, Dd K H v d) ∧ ∀ d', G.cst c = some d' → d' = d
abbrev FnAt (P : Program) (w : World) (K : PySem.W.Frag) (mg : Str → Option Value) (base : Heap) (BI : BoxI) (G : Pg) (n : Nat) (f : Nat) (x : Str) (ar : Nat) : Prop :=
  ∃ fa fd ps, mg x = some (.ref fa) ∧ PySem.W.keepIn K (.ref fa) = true ∧ Binds K fd ps [] ∧ FnOk P w K mg base CX0 n fa fd ps (spF K BI (callN G n) f ar)
theorem xok_of {T : Tab} {BI : BoxI} {G : Pg} {n : Nat} {X : Cx} (hN : X.N.Nodup) (hc : X.calm = true) (hr : Room n X.A) (hx : X.xe = fun _ _ => False) (nm : Names X.K X.mg T G)
    (hf : ∀ f x ar, T.fns.lookup f = some (x, ar) → FnAt X.prog X.w X.K X.mg X.base BI G n f x ar) : XOk T BI (ctx G n) n X :=
  ⟨hN, hc, hr, hx, fun f x ar q => hf f x ar q, nm.bis, nm.cst⟩
theorem rd_fn {BI : BoxI} {G : Pg} {N : List Str} {C : Ctx} {body : Ss} {O : ASet} {bx : Bx} {H : Hp} {as : List Arg} {vs : List V} {kd : D → Prop} {Q : VK} (hl : vs.length ≤ N.length) (ha : Paired (ArgOk K O bx H) as vs) (hb : ∀ B C, bx = some (B, C) → O B ∧ O C ∧ BI.ok H B C)
    (ht : ∀ b, O b → H b ≠ none) (e : execs C body (entry N.length as) (retE kd)) (post : ∀ d v H', Ext (isBx bx) H H' → (∀ B C, bx = some (B, C) → BI.ok H' B C) → Dd K (hid O H') v d → kd d → Q v H') :
    rdSs K BI C body { nx := fun _ H' => Q .non H', rt := Q } (L2.start N vs) H := by
  refine ⟨_, _, bx, _, _, rel_entry hl ha hb ht, e, ⟨fun F' σ' H' ρ' t r k => post .none .non H' t.ext (fun B C q => (r.bok B C q).2.2) .non k, fun F' σ' H' ρ' t r k => k.elim, fun F' σ' H' ρ' t r k => k.elim, fun F' d v H' t bok hd k => post d v H' t.ext bok ?_ k⟩⟩
  have he : ∀ b, ((O b ∧ ¬ isBx bx b) ∨ isBx bx b) ↔ O b := fun b => ⟨fun z => z.elim (·.1) fun ⟨B, C, q, z⟩ => by
    obtain ⟨h1, h2, _⟩ := hb B C q
    rcases z with rfl | rfl
    · exact h1
    · exact h2, fun z => by
    by_cases q : isBx bx b
    · exact .inr q
    · exact .inl ⟨z, q⟩⟩
  rw [← hid_eq he]
  exact hd
theorem fns_ok {T : Tab} {BI : BoxI} {G : Pg} (nm : Names K mg T G) (hd : ∀ f x ar, T.fns.lookup f = some (x, ar) → DefOk P w K mg base T BI G f x ar) : ∀ n f x ar, T.fns.lookup f = some (x, ar) → FnAt P w K mg base BI G n f x ar := by
  intro n
  induction n with
  | zero =>
    intro f x ar q
    obtain ⟨fa, fd, ps, h1, h2, h3, h4, _⟩ := (hd f x ar q).ex
    exact ⟨fa, fd, ps, h1, h2, h3, ⟨fun vs H Q E h => (by rw [h.1, h4]), fun A outer s H args us vs Q E hr he hb hv h => by
      obtain ⟨_, as, O, bx, kd, _, _, _, z, _⟩ := h
      exact False.elim z⟩⟩
  | succ n ih =>
    intro f x ar q
    obtain ⟨fa, fd, ps, h1, h2, h3, h4, h5⟩ := (hd f x ar q).ex
    refine ⟨fa, fd, ps, h1, h2, h3, ?_⟩
    rcases h5 with ⟨F, st, N, g1, g2, g3, g4, g5⟩ | ⟨g1, g2⟩
    · have hpl : ps.length ≤ N.length := by have := congrArg List.length g3.pre; rw [List.length_take] at this; omega
      refine g2.ok g3 (fun vs H Q E h => by rw [h.1, h4]) fun cdv A outer s H vs Q E hr h => ?_
      obtain ⟨hl, as, O, bx, kd, ha, hb, ht, hc, post⟩ := h
      have hc : (match G.fns f with
        | some F => execs ⟨callN G n, G.cst⟩ F.body (entry F.sz as) (retE kd)
        | none => G.k0 ≤ n ∧ G.prim f as kd) := hc
      rw [g1] at hc
      refine ⟨rdSs K BI (ctx G n) F.body, sndSs F.body (cxOf CX0 P w K mg base N x (defScope st) fa cdv A outer s H E).nox (fun _ => true) (defBody st) (xok_of (T := T) (G := G) g3.nd rfl hr rfl nm ih) (fun _ _ => rfl) g5, ?_⟩
      have hc : execs (ctx G n) F.body (entry F.sz as) (retE kd) := hc
      rw [← g4] at hc
      exact rd_fn (G := G) (by omega) ha hb ht hc post
    · by_cases hn : G.k0 ≤ n
      · refine (g2.mono (Nat.succ_le_succ hn)).imp fun vs H Q E h => ?_
        obtain ⟨hl, as, O, bx, kd, ha, hb, ht, hc, post⟩ := h
        have hc : (match G.fns f with
          | some F => execs ⟨callN G n, G.cst⟩ F.body (entry F.sz as) (retE kd)
          | none => G.k0 ≤ n ∧ G.prim f as kd) := hc
        rw [g1] at hc
        exact ⟨hl, as, O, bx, kd, ha, hb, ht, hc.2, post⟩
      · refine ⟨fun vs H Q E h => by rw [h.1, h4], fun A outer s H args us vs Q E hr he hb hv h => ?_⟩
        obtain ⟨hl, as, O, bx, kd, ha, hb, ht, hc, post⟩ := h
        have hc : (match G.fns f with
          | some F => execs ⟨callN G n, G.cst⟩ F.body (entry F.sz as) (retE kd)
          | none => G.k0 ≤ n ∧ G.prim f as kd) := hc
        rw [g1] at hc
        exact absurd hc.1 hn
end
end DD

/-! DD13: the law's box of draws (the script's numbers, the number under way, the seed), and what its defs promise. -/
namespace DD
open PySem PySem.Spec PyProof.Rows L2 PySem.W

def bxOk (H : Hp) (B C : Addr) : Prop := B ≠ C ∧ ∃ (s r : Int) (ns : List Int), H B = some (.lst [.ref C, .int s, .int r]) ∧ H C = some (.lst (ns.map V.int))
def boxI : BoxI where
  ok := bxOk
  loc := fun {H H' B C} ⟨ne, s, r, ns, h1, h2⟩ e1 e2 => ⟨ne, s, r, ns, e1.trans h1, e2.trans h2⟩
  trk := fun {H B C} ⟨ne, s, r, ns, h1, h2⟩ => ⟨(by rw [h1]; exact fun z => by cases z), (by rw [h2]; exact fun z => by cases z)⟩
/-- box(script): a new box -/
def spMk (K : PySem.W.Frag) (ok : Hp → Addr → Addr → Prop) : Sp := fun vs H Q _ => ∃ (a : Addr) (ns : List Int), vs = [.ref a] ∧ SqL K H a (ns.map V.int) ∧ ∀ B C H', Sub H H' → H B = none → H C = none → ok H' B C → Q (.ref B) H'
/-- load(box): some int, the box anew -/
def spLoad : Sp := fun vs H Q _ => ∃ B C, vs = [.ref B] ∧ bxOk H B C ∧ ∀ (z : Int) H', bxOk H' B C → (∀ b o, b ≠ B → b ≠ C → H b = some o → H' b = some o) → Q (.int z) H'
/-- draw(box, many): some digit, the box anew -/
def spDraw (ok : Hp → Addr → Addr → Prop) : Sp := fun vs H Q _ => ∃ (B C : Addr) (n : Int), vs = [.ref B, .int n] ∧ ok H B C ∧ 0 < n ∧ n.natAbs.log2 < 9000 ∧ ∀ (k : Int) H', 0 ≤ k → k < n → ok H' B C → (∀ b o, b ≠ B → b ≠ C → H b = some o → H' b = some o) → Q (.int k) H'
/-- the draw, as the language sees it -/
def pDraw (as : List Arg) (kd : D → Prop) : Prop := match as with
  | [.box, .d (.int n)] => (0 < n ∧ n.natAbs.log2 < 9000) ∧ ∀ k : Int, 0 ≤ k → k < n → kd (.int k)
  | _ => False
theorem draw_imp {BI : BoxI} {K : PySem.W.Frag} {prim : Nat → List Arg → (D → Prop) → Prop} {f : Nat} (hp : ∀ as kd, prim f as kd → pDraw as kd) {vs : List V} {H : Hp} {Q : VK} {E : XK} (h : spF K BI prim f 2 vs H Q E) : spDraw BI.ok vs H Q E := by
  obtain ⟨hl, as, O, bx, kd, ha, hb, ht, hc, post⟩ := h
  replace hc := hp as kd hc
  unfold pDraw at hc
  split at hc
  · rename_i n
    cases ha with | cons a1 a2 =>
    cases a2 with | cons a2 a3 =>
    cases a3
    obtain ⟨B, C, q, rfl⟩ := a1
    cases a2
    obtain ⟨o1, o2, o3⟩ := hb B C q
    refine ⟨B, C, n, rfl, o3, hc.1.1, hc.1.2, fun k H' k0 k1 bok kp => post (.int k) _ H' (fun b o e nb => kp b o (fun z => nb ⟨B, C, q, .inl z⟩) (fun z => nb ⟨B, C, q, .inr z⟩) e) (fun B' C' q' => ?_) (.int k) (hc.2 k k0 k1)⟩
    rw [q] at q'
    cases q'
    exact bok
  · exact hc.elim

/-- the law's def: it makes the box, then its body in the language -/
def lawOk (K : PySem.W.Frag) : Sp := fun vs H Q _ => ∃ (a : Addr) (ns : List Int), vs = [.ref a] ∧ SqL K H a (ns.map V.int) ∧ ∀ H', Q (.bl true) H'
def trueE : Ends := ⟨fun _ => False, fun d => d = .bool true, fun _ => False, fun _ => False⟩
section
variable {P : Program} {w : World} {K : PySem.W.Frag} {mg : Str → Option Value} {base : Heap}
def st0Ok (N : List Str) (sc : Scope) (i : Nat) (mk : Str) (st : Stmt) : Bool := match st with
  | .Assign [.Name y _] (.Call (.Name f _) [.Name x _] [] _) _ => decide (N[0]? = some x) && decide (N[i]? = some y) && decide (f = mk) && visB sc x && nmB x && glB sc f && nmB f && locB sc (fun _ => true) y
  | _ => false
theorem law_ok {T : Tab} {BI : BoxI} {G : Pg} {n i : Nat} {mk : Str} {fa fb : Addr} {fd fdb : FuncData} {st st0 : Stmt} {rest : List Stmt} {N : List Str} {sx : Str} {body : Ss} {psb : List Str} (nm : Names K mg T G) (hd : ∀ f x ar, T.fns.lookup f = some (x, ar) → DefOk P w K mg base T BI G f x ar)
    (F : Fun K "law" "law" st fa fd) (S : FnScope N [sx] (defScope st)) (hb : defBody st = st0 :: rest) (h0 : st0Ok N (defScope st) i mk st0 = true)
    (Fb : FnOk P w K mg base CX0 G.k0 fb fdb psb (spMk K BI.ok)) (mb : mg mk = some (.ref fb)) (kb : PySem.W.keepIn K (.ref fb) = true) (bb : Binds K fdb psb []) (hk : G.k0 ≤ n) (hN : 1 < N.length) (hi : 0 < i)
    (hc : ckSs T N (defScope st) (fun _ => true) body rest = true) (hlaw : execs (ctx G n) body ((List.replicate N.length none).set i (some .box)) trueE) : FnOk P w K mg base CX0 (n + 1) fa fd [sx] (lawOk K) := by
  refine F.ok S (fun vs H Q E h => ?_) fun cdv A outer s H vs Q E hr h => ?_
  · obtain ⟨a, ns, rfl, _⟩ := h; rfl
  obtain ⟨a, ns, rfl, hS, k⟩ := h
  unfold st0Ok at h0
  split at h0
  · rename_i y p1 f p2 x p3 p4 p5
    simp only [Bool.and_eq_true, decide_eq_true_eq] at h0
    obtain ⟨⟨⟨⟨⟨⟨⟨g1, g2⟩, rfl⟩, g3⟩, g4⟩, g5⟩, g6⟩, g7⟩ := h0
    generalize hX : (cxOf CX0 P w K mg base N "law" (defScope st) fa cdv A outer s H E).nox = X
    have xN : X.N = N := by rw [← hX]; rfl
    have xs : X.env.scope = defScope st := by rw [← hX]; rfl
    have xK : X.K = K := by rw [← hX]; rfl
    have xm : X.mg = mg := by rw [← hX]; rfl
    have xk : XOk T BI (ctx G n) n X := by
      subst hX
      exact xok_of (T := T) (G := G) S.nd rfl hr rfl nm (fns_ok nm hd n)
    have vx : PE X (.Name x p3) (tVar 0) := pe_var (by rw [xN]; exact g1) (by rw [xs]; exact vis_of g3) (nm_of g4).1 (nm_of g4).2
    have ce : PE X (.Call (.Name f p2) [.Name x p3] [] p4) (tCall (spMk K BI.ok) [] E0 (tCons (tVar 0) tNil)) := by
      subst hX
      exact pe_call (E := E0) Fb (hr.mono hk) (gl_of g5) mb kb bb .nil pass0 (pa_cons vx pa_nil rfl) (nm_of g6).1 rfl rfl
    have lc : Loc X.env.scope y ∧ X.fn y = true := by
      refine ⟨?_, by rw [← hX]; rfl⟩
      rw [xs]
      unfold locB at g7
      split at g7
      · rename_i q; exact .inl q
      · rename_i q; exact .inr q
      · cases g7
    have p0 : PS X (.Assign [.Name y p1] (.Call (.Name f p2) [.Name x p3] [] p4) p5) (tAsg (tCall (spMk K BI.ok) [] E0 (tCons (tVar 0) tNil)) (gName i)) := ps_set xk.nodup (by rw [xN]; exact g2) lc.1 ce rfl (.inl lc.2)
    have pr : PSs X rest (rdSs X.K BI (ctx G n) body) := sndSs body X (fun _ => true) rest xk (fun z _ => by rw [← hX]; rfl) (by rw [xN, xs]; exact hc)
    rw [hb]
    refine ⟨_, pss_cons p0 pr, ?_⟩
    have s0 : (L2.start N [V.ref a])[0]? = some (some (.ref a)) := start_at rfl
    refine ⟨_, s0, a, ns, rfl, hS, fun B C' H' sb nB nC bok => ?_⟩
    rw [xK]
    have bne : ∀ b, isBx (some (B, C')) b → H' b ≠ none := fun b ⟨_, _, q, z⟩ => by
      cases q
      have t := BI.trk bok
      rcases z with rfl | rfl
      · exact t.1
      · exact t.2
    have only : ∀ {j : Nat} {val : Vl}, ((List.replicate N.length (none : Option Vl)).set i (some .box))[j]? = some (some val) → val = .box ∧ j = i := fun {j val} q => by
      by_cases e : i = j
      · subst e
        have hl : i < N.length := (List.getElem?_eq_some_iff.mp g2).1
        rw [List.getElem?_set_self (by rw [List.length_replicate]; exact hl)] at q
        cases q; exact ⟨rfl, rfl⟩
      · rw [List.getElem?_set_ne e, List.getElem?_replicate] at q
        split at q <;> cases q
    refine ⟨fun _ => False, isBx (some (B, C')), some (B, C'), _, _, ⟨?_, fun j x q => ?_, fun j x q => ?_, fun j j' x y _ q _ => ?_, fun j q => ?_, fun j q => ?_, fun B1 C1 q => ?_, fun b q => bne b (q.elim (fun z => z.elim) id), fun b q => q.elim⟩, hlaw, ⟨fun F' σ' H' ρ' t r z => z.elim, fun F' σ' H' ρ' t r z => z.elim, fun F' σ' H' ρ' t r z => z.elim, fun F' d v H' t bk hd z => ?_⟩⟩
    · rw [List.length_set, List.length_set, List.length_replicate]
      unfold L2.start
      simp only [List.length_append, List.length_map, List.length_replicate, List.length_cons, List.length_nil]
      omega
    · cases (only q).1
    · cases (only q).1
    · cases (only q).1
    · obtain ⟨_, rfl⟩ := only q
      refine ⟨B, C', rfl, ?_⟩
      rw [List.getElem?_set_self]
      unfold L2.start
      have hl : j < N.length := (List.getElem?_eq_some_iff.mp g2).1
      simp only [List.length_append, List.length_map, List.length_replicate, List.length_cons, List.length_nil]
      omega
    · cases (only q).1
    · cases q; exact ⟨⟨B, C', rfl, .inl rfl⟩, ⟨B, C', rfl, .inr rfl⟩, bok⟩
    · have z : d = .bool true := z
      subst z
      cases hd
      exact k H'
  · cases h0
end
end DD

/-! DD14: from what the top has written to the walk. -/
namespace DD
open PySem PySem.Spec PyProof.Rows L2 PySem.W

/-- the names of a def's scope, looked at -/
def scK (N ps : List Str) (sc : Scope) : Bool := fnKind sc && (!sc.isCoroutine && (!sc.isGenerator && (decide N.Nodup && (decide (N.take ps.length = ps) && (ps.all (fun x => locB sc (fun _ => true) x) && sc.names.all fun y => match y.2 with | .free => false | _ => true)))))
theorem scK_of {N ps : List Str} {sc : Scope} (h : scK N ps sc = true) : FnScope N ps sc := by
  unfold scK at h
  simp only [Bool.and_eq_true, Bool.not_eq_true', decide_eq_true_eq, List.all_eq_true] at h
  obtain ⟨h1, h2, h3, h4, h5, h6, h7⟩ := h
  refine ⟨?_, h2, h3, h4, h5, fun x hx => ?_, fun y hy e => ?_⟩
  · unfold fnKind at h1
    split at h1
    · assumption
    · cases h1
  · have := h6 x hx
    unfold locB at this
    split at this
    · rename_i q; exact .inl q
    · rename_i q; exact .inr q
    · cases this
  · have := h7 y hy
    rw [e] at this
    cases this
/-- a def of the top, as it is written -/
structure Dk (K : PySem.W.Frag) (x : Str) (st : Stmt) : Prop where
  ex : ∃ (f : Addr) (oc : Value) (od an : Option Addr) (osl : Array (Option Value)) (kV doc pm cdv ct : Value), PySem.W.nsIn K mainGlobals x = some (some (.ref f)) ∧
    K.lookup f = some ⟨oc, od, .func (PySem.W.fnOf x x (defArgs st) (defBody st) (defScope st) .none kV doc pm an cdv ct), osl⟩ ∧ PySem.W.codeIn K cdv x = true ∧ PySem.W.keepIn K (.ref f) = true
theorem dk_mk {K : PySem.W.Frag} {x : Str} {st : Stmt} {f : Addr} {oc : Value} {od an : Option Addr} {osl : Array (Option Value)} {kV doc pm cdv ct : Value} (a : PySem.W.nsIn K mainGlobals x = some (some (.ref f)))
    (l : K.lookup f = some ⟨oc, od, .func (PySem.W.fnOf x x (defArgs st) (defBody st) (defScope st) .none kV doc pm an cdv ct), osl⟩) (c : PySem.W.codeIn K cdv x = true) (k : PySem.W.keepIn K (.ref f) = true) : Dk K x st := ⟨⟨f, oc, od, an, osl, kV, doc, pm, cdv, ct, a, l, c, k⟩⟩
abbrev BindF (x : Str) (st : Stmt) (ps : List Str) : Prop := ∀ (kV doc pm : Value) (an : Option Addr) (cdv ct : Value) (us : List Value), us.length = ps.length → bindArgs (PySem.W.fnOf x x (defArgs st) (defBody st) (defScope st) .none kV doc pm an cdv ct) ⟨us, []⟩ = pure (ps.zip us)
section
variable {P : Program} {w : World} {K : PySem.W.Frag} {mg : Str → Option Value} {base h : Heap}
theorem Dk.use {x : Str} {st : Stmt} {ps : List Str} (D : Dk K x st) (X : K.In h) (G : h.Ns mainGlobals mg) (hb : BindF x st ps) :
    ∃ f fd, mg x = some (.ref f) ∧ PySem.W.keepIn K (.ref f) = true ∧ Fun K x x st f fd ∧ L2.Binds K fd ps [] ∧ ∀ (s : Shared) (us : List Value), us.length = ps.length → BindsTo s fd ⟨us, []⟩ (ps.zip us) := by
  obtain ⟨f, oc, od, an, osl, kV, doc, pm, cdv, ct, a, l, c, k⟩ := D.ex
  have F := fun_mk l c k
  exact ⟨f, _, PySem.W.mg_of X G a, k, F, F.binds hb, fun s us hl => .of_eq (hb kV doc pm an cdv ct us hl)⟩
theorem def_of {T : Tab} {BI : BoxI} {G : Pg} {f ar : Nat} {x : Str} {st : Stmt} {ps N : List Str} {body : Ss} (D : Dk K x st) (X : K.In h) (G0 : h.Ns mainGlobals mg) (hb : BindF x st ps) (hf : G.fns f = some ⟨body, N.length⟩) (har : ps.length = ar)
    (hs : scK N ps (defScope st) = true) (hc : ckSs T N (defScope st) (fun _ => true) body (defBody st) = true) : DefOk P w K mg base T BI G f x ar := by
  obtain ⟨fa, fd, h1, h2, F, h3, _⟩ := D.use X G0 hb
  exact ⟨fa, fd, ps, h1, h2, h3, har, .inl ⟨_, st, N, hf, F, scK_of hs, rfl, hc⟩⟩
inductive AllDef (P : Program) (w : World) (K : PySem.W.Frag) (mg : Str → Option Value) (base : Heap) (T : Tab) (BI : BoxI) (G : Pg) : List (Nat × Str × Nat) → Prop
  | nil : AllDef P w K mg base T BI G []
  | cons {f : Nat} {x : Str} {ar : Nat} {l : List (Nat × Str × Nat)} : DefOk P w K mg base T BI G f x ar → AllDef P w K mg base T BI G l → AllDef P w K mg base T BI G ((f, x, ar) :: l)
theorem AllDef.at {T : Tab} {BI : BoxI} {G : Pg} : ∀ {l : List (Nat × Str × Nat)}, AllDef P w K mg base T BI G l → ∀ f x ar, l.lookup f = some (x, ar) → DefOk P w K mg base T BI G f x ar
  | _, .nil, f, x, ar, h => by cases h
  | _, .cons (f := g) (x := y) (ar := m) d t, f, x, ar, h => by
    rw [List.lookup_cons] at h
    split at h
    · rename_i q
      have e : f = g := by simpa using q
      cases h
      rw [e]; exact d
    · exact t.at f x ar h
inductive AllNo (K : PySem.W.Frag) : List Str → Prop
  | nil : AllNo K []
  | cons {x : Str} {l : List Str} : PySem.W.nsIn K mainGlobals x = some none → AllNo K l → AllNo K (x :: l)
theorem AllNo.at (X : K.In h) (G0 : h.Ns mainGlobals mg) : ∀ {l : List Str}, AllNo K l → ∀ x ∈ l, mg x = none
  | _, .cons a t, x, q => by
    rcases List.mem_cons.mp q with rfl | q
    · exact PySem.W.mg_none_of X G0 a
    · exact t.at X G0 x q
/-- module constants (plain values) -/
inductive AllCst (K : PySem.W.Frag) (cst : Nat → Option D) : Nat → List Str → Prop
  | nil {i : Nat} : AllCst K cst i []
  | cons {i : Nat} {x : Str} {l : List Str} {u : Value} {v : V} {d : D} : PySem.W.nsIn K mainGlobals x = some (some u) → RelV v u → (∀ H, Dd K H v d) → cst i = some d → AllCst K cst (i + 1) l → AllCst K cst i (x :: l)
theorem cst_int {cst : Nat → Option D} {i : Nat} {x : Str} {l : List Str} {n : Int} {t : Tok} (a : PySem.W.nsIn K mainGlobals x = some (some (.int n t))) (e : cst i = some (.int n)) (r : AllCst K cst (i + 1) l) : AllCst K cst i (x :: l) := .cons (v := .int n) a ⟨t, rfl⟩ (fun _ => .int n) e r
theorem cst_str {cst : Nat → Option D} {i : Nat} {x : Str} {l : List Str} {n : Str} {t : Tok} (a : PySem.W.nsIn K mainGlobals x = some (some (.str n t))) (e : cst i = some (.str n)) (r : AllCst K cst (i + 1) l) : AllCst K cst i (x :: l) := .cons (v := .str n) a ⟨t, rfl⟩ (fun _ => .str n) e r
theorem AllCst.at {cst : Nat → Option D} (X : K.In h) (G0 : h.Ns mainGlobals mg) : ∀ {l : List Str} {i : Nat}, AllCst K cst i l → ∀ c x, l[c]? = some x → ∃ u v d, mg x = some u ∧ RelV v u ∧ (∀ H, Dd K H v d) ∧ ∀ d', cst (i + c) = some d' → d' = d
  | _, _, .cons (u := u) (v := v) (d := d) a r hd e t, 0, x, q => by
    cases q
    exact ⟨u, v, d, PySem.W.mg_of X G0 a, r, hd, fun d' q => by rw [Nat.add_zero, e] at q; cases q; rfl⟩
  | _, i, .cons a r hd e t, c + 1, x, q => by
    obtain ⟨u, v, d, h1, h2, h3, h4⟩ := t.at X G0 c x q
    exact ⟨u, v, d, h1, h2, h3, fun d' q => h4 d' (by rw [← q]; congr 1; omega)⟩
  | _, _, .nil, c, x, q => by cases q
end
/-- THE END: the law's promise -/
theorem walk_law {l : PySem.W.OpenLaw} {q : Program} {loose : List Str} {XP : (Str → Option Value) → Heap → Prop} {YP : World → Heap → Prop} {d : DefRec} {K : Params → PySem.W.Frag} {sx : Str} {n m : Nat} (hn : l.most = some m) (hm : m ≤ sizeLine) (hdf : d.params.defaults = []) (hr : Room n callerA)
    (hY : ∀ (w : World) (h : Heap), YP w h → (K w.params).In h)
    (F : ∀ (w : World) (mg : Str → Option Value) (fa : Addr) (h : Heap), (K w.params).In h → h.Ns mainGlobals mg → mg d.name = some (.ref fa) →
      ∃ fd : FuncData, (∀ (s : Shared) (u : Value), BindsTo s fd ⟨[u], []⟩ [(sx, u)]) ∧ ∀ base : Heap, (K w.params).In base → base.Ns mainGlobals mg → FnOk l.prog w (K w.params) mg base CX0 n fa fd [sx] (lawOk (K w.params))) :
    PySem.W.WalkO q loose XP YP l.row.toRowW d [] (fun f vs => PySem.call f vs) :=
  L2.walk_of (n := m) (k := n) (x := sx) (CX := fun _ => CX0) (sp := fun w => lawOk (K w.params)) hn hm hdf hr hY F (fun _ _ a ns _ _ hS => ⟨a, ns, rfl, hS, fun _ => rfl⟩) fun _ _ _ _ _ z => z
end DD

/-! DX: how the language's meaning is proved. -/
namespace DD
open PySem PySem.Spec PyProof.Rows L2 PySem.W
theorem callN_fn {G : Pg} {f n : Nat} {F : Fn} {as : List Arg} {kd : D → Prop} (h : G.fns f = some F) : callN G (n + 1) f as kd = execs (ctx G n) F.body (entry F.sz as) (retE kd) := by
  show (match G.fns f with | some F => execs ⟨callN G n, G.cst⟩ F.body (entry F.sz as) (retE kd) | none => G.k0 ≤ n ∧ G.prim f as kd) = _
  rw [h]; rfl
theorem forL_inv {f : D → En → (En → Prop) → Prop} {k : En → Prop} (I : Nat → En → Prop) : ∀ {xs : List D} {ρ : En} (i : Nat), I i ρ → (∀ j x ρ k', xs[j]? = some x → I (i + j) ρ → (∀ ρ', I (i + j + 1) ρ' → k' ρ') → f x ρ k') → (∀ ρ, I (i + xs.length) ρ → k ρ) → forL f xs ρ k
  | [], ρ, i, h0, _, he => he ρ h0
  | x :: xs, ρ, i, h0, hs, he => hs 0 x ρ _ rfl h0 fun ρ' h1 => forL_inv (xs := xs) I (i + 1) h1 (fun j y ρ2 k' q h2 h3 => hs (j + 1) y ρ2 k' q (by rw [← Nat.add_assoc, Nat.add_right_comm]; exact h2) fun ρ' h4 => h3 ρ' (by rw [Nat.add_right_comm i 1 j]; exact h4)) fun ρ2 h2 => he ρ2 (by rw [List.length_cons, ← Nat.add_assoc, Nat.add_right_comm]; exact h2)
theorem lcl_inv {f : D → En → (Option D → En → Prop) → Prop} (g : D → Option D) (I : En → Prop) : ∀ {xs : List D} {ρ : En} {acc : List D} {k : List D → En → Prop}, I ρ → (∀ x ∈ xs, ∀ ρ k2, I ρ → (∀ ρ', I ρ' → k2 (g x) ρ') → f x ρ k2) → acc.length + xs.length ≤ sizeLine → (∀ ρ, I ρ → k (acc ++ xs.filterMap g) ρ) → lcl f xs ρ acc k
  | [], ρ, acc, k, h0, _, _, he => by
    have := he ρ h0
    rw [List.filterMap_nil, List.append_nil] at this
    exact this
  | x :: xs, ρ, acc, k, h0, hs, hl, he => by
    refine hs x List.mem_cons_self ρ _ h0 fun ρ' h1 => ?_
    rw [List.length_cons] at hl
    rw [List.filterMap_cons] at he
    cases q : g x with
    | none =>
      rw [q] at he
      exact lcl_inv g I h1 (fun y hy => hs y (List.mem_cons_of_mem _ hy)) (by omega) he
    | some d =>
      rw [q] at he
      refine ⟨by omega, lcl_inv g I h1 (fun y hy => hs y (List.mem_cons_of_mem _ hy)) (by rw [List.length_append, List.length_singleton]; omega) fun ρ h => ?_⟩
      rw [List.append_assoc]
      exact he ρ h
end DD

/-! DX2: the meaning's equations, one by one (for simp only, from without). -/
namespace DD
open PySem PySem.Spec PyProof.Rows L2 PySem.W
def slotE (o : Option (Option Vl)) (i : Nat) (ρ : En) (k : RV → En → Prop) : Prop := match o with
  | some (some (.d x)) => k (.d x) ρ
  | some (some (.own _)) => k (.o i) ρ
  | some (some .box) => k .box ρ
  | _ => False
def slotO (o : Option (Option Vl)) (k : D → Prop) : Prop := match o with
  | some (some (.own x)) => k x
  | _ => False
def slotL (o : Option (Option Vl)) (k : List D → Prop) : Prop := match o with
  | some (some (.own (.list x))) => k x
  | _ => False
def slotC (o : Option D) (k : D → Prop) : Prop := ∃ v, o = some v ∧ k v
section
variable {C : Ctx} {ρ : En} {k : RV → En → Prop} {ka : List RV → En → Prop} {kl : List D → En → Prop} {kb : Bool → En → Prop} {kd : D → Prop} {kB : Bool → Prop} {a b c e : Ex} {es : Es} {op op' : Operator} {co co' : CmpOp} {i f : Nat} {x y z : D} {K : Ends} {s : S} {ss ss' : Ss} {it : It} {tg : Tg} {vs : List RV} {ko : Option Int → En → Prop}
theorem e_var : ev C (.var i) ρ k = slotE ρ[i]? i ρ k := id rfl
theorem e_gl : ev C (.gl f) ρ k = slotC (C.cst f) fun v => k (.d v) ρ := id rfl
theorem e_int {n : Int} : ev C (.int n) ρ k = k (.d (.int n)) ρ := id rfl
theorem e_str {n : Str} : ev C (.str n) ρ k = k (.d (.str n)) ρ := id rfl
theorem e_bl {n : Bool} : ev C (.bl n) ρ k = k (.d (.bool n)) ρ := id rfl
theorem e_non : ev C .non ρ k = k (.d .none) ρ := id rfl
theorem e_tup : ev C (.tup es) ρ k = evs C es ρ fun vs ρ' => capAll vs fun ds => k (.d (.tuple ds)) ρ' := id rfl
theorem e_lst : ev C (.lst es) ρ k = evs C es ρ fun vs ρ' => capAll vs fun ds => k (.d (.list ds)) ρ' := id rfl
theorem e_bin : ev C (.bin op a b) ρ k = ev C a ρ fun x ρ1 => ev C b ρ1 fun y ρ2 => bor ρ2 x fun dx => bor ρ2 y fun dy => binD op dx dy fun z => k (.d z) ρ2 := id rfl
theorem e_neg : ev C (.neg a) ρ k = ev C a ρ fun x ρ1 => bor ρ1 x fun dx => ∃ n, dx = .int n ∧ k (.d (.int (-n))) ρ1 := id rfl
theorem e_not : ev C (.not a) ρ k = ev C a ρ fun x ρ1 => bor ρ1 x fun dx => truthD dx fun c => k (.d (.bool (!c))) ρ1 := id rfl
theorem e_and1 : ev C (.and (.cons a .nil)) ρ k = ev C a ρ k := id rfl
theorem e_and2 : ev C (.and (.cons a (.cons b es))) ρ k = ev C a ρ fun x ρ1 => bor ρ1 x fun dx => truthD dx fun c => if c = true then ev C (.and (.cons b es)) ρ1 k else k x ρ1 := id rfl
theorem e_or1 : ev C (.or (.cons a .nil)) ρ k = ev C a ρ k := id rfl
theorem e_or2 : ev C (.or (.cons a (.cons b es))) ρ k = ev C a ρ fun x ρ1 => bor ρ1 x fun dx => truthD dx fun c => if c = true then k x ρ1 else ev C (.or (.cons b es)) ρ1 k := id rfl
theorem e_cmp : ev C (.cmp co a b) ρ k = ev C a ρ fun x ρ1 => ev C b ρ1 fun y ρ2 => bor ρ2 x fun dx => bor ρ2 y fun dy => cmpD co dx dy fun z => k (.d (.bool z)) ρ2 := id rfl
theorem e_chn : ev C (.chn co co' a b c) ρ k = ev C a ρ fun x ρ1 => ev C b ρ1 fun y ρ2 => bor ρ2 x fun dx => bor ρ2 y fun dy => cmpD co dx dy fun z =>
    if z = true then ev C c ρ2 fun w ρ3 => bor ρ3 y fun dy => bor ρ3 w fun dw => cmpD co' dy dw fun z' => k (.d (.bool z')) ρ3 else k (.d (.bool false)) ρ2 := id rfl
theorem e_ite : ev C (.ite c a b) ρ k = ev C c ρ fun x ρ1 => bor ρ1 x fun dx => truthD dx fun t => if t = true then ev C a ρ1 k else ev C b ρ1 k := id rfl
theorem e_idx : ev C (.idx a b) ρ k = ev C a ρ fun x ρ1 => ev C b ρ1 fun y ρ2 => bor ρ2 x fun dx => bor ρ2 y fun dy => ixD dx dy fun z => k (.d z) ρ2 := id rfl
theorem e_slc {lo hi : Eo} : ev C (.slc a lo hi) ρ k = ev C a ρ fun x ρ1 => evo C lo ρ1 fun l ρ2 => evo C hi ρ2 fun h ρ3 => bor ρ3 x fun dx => slD dx l h fun z => k (.d z) ρ3 := id rfl
theorem e_rev : ev C (.rev a) ρ k = ev C a ρ fun x ρ1 => bor ρ1 x fun dx => revD dx fun z => k (.d z) ρ1 := id rfl
theorem e_call : ev C (.call f es) ρ k = evs C es ρ fun vs ρ1 => argAll ρ1 vs fun as => C.call f as fun d => (vs.any isO = false ∨ flat d = true) ∧ k (.d d) ρ1 := id rfl
theorem e_bi {bb : Bi} : ev C (.bi bb es) ρ k = evs C es ρ fun vs ρ1 => borAll ρ1 vs fun ds => biD bb ds fun d => k (.d d) ρ1 := id rfl
theorem e_isi {ty : Ty} : ev C (.isi a ty) ρ k = ev C a ρ fun x ρ1 => bor ρ1 x fun dx => k (.d (.bool (isiD dx ty))) ρ1 := id rfl
theorem e_pop0 : ev C (.pop0 i) ρ k = slotL ρ[i]? fun xs => ∃ d, xs[xs.length - 1]? = some d ∧ k (.d d) (ρ.set i (some (.own (.list xs.dropLast)))) := id rfl
theorem e_popA : ev C (.popA i e) ρ k = (slotL ρ[i]? (fun _ => True) ∧ ev C e ρ fun v ρ1 => bor ρ1 v fun y => slotL ρ1[i]? fun xs => ∃ n j d, y = .int n ∧ (-(2 ^ 63) ≤ n ∧ n < 2 ^ 63) ∧ ixN xs.length n = some j ∧ xs[j]? = some d ∧ k (.d d) (ρ1.set i (some (.own (.list (xs.eraseIdx j)))))) := id rfl
theorem e_lc {vs : List Nat} {cs : Es} : ev C (.lc e vs tg it cs) ρ k = itv C it ρ fun xs ρ1 =>
    lcl (fun x ρ2 k2 => tgt tg x (wipeR ρ2 vs) fun ρ3 => evc C cs ρ3 fun b ρ4 => if b = true then ev C e ρ4 fun v ρ5 => cap v fun d => k2 (some d) ρ5 else k2 none ρ4) xs ρ1 [] fun acc ρ6 => k (.d (.list acc)) (back ρ1 ρ6 vs) := id rfl
theorem es_nil : evs C .nil ρ ka = ka [] ρ := id rfl
theorem es_cons : evs C (.cons e es) ρ ka = ev C e ρ fun v ρ1 => evs C es ρ1 fun vs ρ2 => ka (v :: vs) ρ2 := id rfl
theorem eo_none : evo C .none ρ ko = ko none ρ := id rfl
theorem eo_some : evo C (.some e) ρ ko = ev C e ρ fun v ρ1 => bor ρ1 v fun d => ∃ n, d = .int n ∧ ko (some n) ρ1 := id rfl
theorem ec_nil : evc C .nil ρ kb = kb true ρ := id rfl
theorem ec_cons : evc C (.cons e es) ρ kb = ev C e ρ fun v ρ1 => bor ρ1 v fun d => truthD d fun c => if c = true then evc C es ρ1 kb else kb false ρ1 := id rfl
theorem bor_d : bor ρ (.d x) kd = kd x := id rfl
theorem bor_o : bor ρ (.o i) kd = slotO ρ[i]? kd := id rfl
theorem cap_d : cap (.d x) kd = kd x := id rfl
theorem ca_nil {kx : List D → Prop} : capAll [] kx = kx [] := id rfl
theorem ca_cons {v : RV} {kx : List D → Prop} : capAll (v :: vs) kx = cap v fun d => capAll vs fun ds => kx (d :: ds) := id rfl
theorem ba_nil {kx : List D → Prop} : borAll ρ [] kx = kx [] := id rfl
theorem ba_cons {v : RV} {kx : List D → Prop} : borAll ρ (v :: vs) kx = bor ρ v fun d => borAll ρ vs fun ds => kx (d :: ds) := id rfl
theorem aa_nil {kx : List Arg → Prop} : argAll ρ [] kx = kx [] := id rfl
theorem aa_box {kx : List Arg → Prop} : argAll ρ (.box :: vs) kx = argAll ρ vs fun as => kx (.box :: as) := id rfl
theorem aa_d {kx : List Arg → Prop} : argAll ρ (.d x :: vs) kx = argAll ρ vs fun as => kx (.d x :: as) := id rfl
theorem aa_o {kx : List Arg → Prop} : argAll ρ (.o i :: vs) kx = slotO ρ[i]? fun x => argAll ρ vs fun as => kx (.d x :: as) := id rfl
theorem b_add {m n : Int} : binD .Add (.int m) (.int n) kd = kd (.int (m + n)) := id rfl
theorem b_sub {m n : Int} : binD .Sub (.int m) (.int n) kd = kd (.int (m - n)) := id rfl
theorem b_mul {m n : Int} : binD .Mult (.int m) (.int n) kd = (MulOk m n ∧ kd (.int (m * n))) := id rfl
theorem b_div {m n : Int} : binD .FloorDiv (.int m) (.int n) kd = (CDivW m n ∧ kd (.int (m / n))) := id rfl
theorem b_mod {m n : Int} : binD .Mod (.int m) (.int n) kd = (0 < n ∧ kd (.int (m % n))) := id rfl
theorem b_pow {m n : Int} : binD .Pow (.int m) (.int n) kd = (CPow m n ∧ kd (.int (m ^ n.toNat))) := id rfl
theorem b_shl {m n : Int} : binD .LShift (.int m) (.int n) kd = (CPow m n ∧ kd (.int (m * 2 ^ n.toNat))) := id rfl
theorem b_cat {m n : Str} : binD .Add (.str m) (.str n) kd = (m.length + n.length ≤ sizeLine ∧ kd (.str (m ++ n))) := id rfl
theorem b_catL {m n : List D} : binD .Add (.list m) (.list n) kd = (m.length + n.length ≤ sizeLine ∧ kd (.list (m ++ n))) := id rfl
theorem b_catT {m n : List D} : binD .Add (.tuple m) (.tuple n) kd = (m.length + n.length ≤ sizeLine ∧ kd (.tuple (m ++ n))) := id rfl
theorem b_repL {m : List D} {n : Int} : binD .Mult (.list m) (.int n) kd = ((-(2 ^ 63) ≤ n ∧ n < 2 ^ 63 ∧ m.length * n.toNat ≤ sizeLine) ∧ kd (.list (List.replicate n.toNat m).flatten)) := id rfl
theorem c_eq : cmpD .Eq x y kB = (CmpOk x y ∧ kB (PyData.eqv x y)) := id rfl
theorem c_ne : cmpD .NotEq x y kB = (CmpOk x y ∧ kB (!PyData.eqv x y)) := id rfl

theorem sl_d : slotE (some (some (.d x))) i ρ k = k (.d x) ρ := id rfl
theorem sl_own : slotE (some (some (.own x))) i ρ k = k (.o i) ρ := id rfl
theorem sl_box : slotE (some (some .box)) i ρ k = k .box ρ := id rfl
theorem so_own : slotO (some (some (.own x))) kd = kd x := id rfl
theorem sL_own {xs : List D} {kx : List D → Prop} : slotL (some (some (.own (.list xs)))) kx = kx xs := id rfl
theorem sc_some : slotC (some x) kd = kd x := propext ⟨fun ⟨_, q, r⟩ => by cases q; exact r, fun q => ⟨_, rfl, q⟩⟩
theorem t_bool {b : Bool} : truthD (.bool b) kB = kB b := id rfl
theorem t_int {n : Int} : truthD (.int n) kB = kB (n != 0) := id rfl
theorem t_non : truthD .none kB = kB false := id rfl
theorem t_str {n : Str} : truthD (.str n) kB = (n.length ≤ sizeLine ∧ kB ((n.length : Int) != 0)) := id rfl
theorem t_list {xs : List D} : truthD (.list xs) kB = kB (!xs.isEmpty) := id rfl
theorem t_tuple {xs : List D} : truthD (.tuple xs) kB = kB (!xs.isEmpty) := id rfl
end
end DD

/-! DX3: equations of data operations and of statements. -/
namespace DD
open PySem PySem.Spec PyProof.Rows L2 PySem.W
def slotX (o : Option (Option Vl)) (k : D → Prop) : Prop := match o with
  | some (some (.d x)) => k x
  | some (some (.own x)) => k x
  | _ => False
theorem sx_d {x : D} {k : D → Prop} : slotX (some (some (.d x))) k = k x := id rfl
theorem sx_o {x : D} {k : D → Prop} : slotX (some (some (.own x))) k = k x := id rfl
section
variable {C : Ctx} {ρ : En} {kd : D → Prop} {kB : Bool → Prop} {x y : D} {K : Ends} {e c : Ex} {s : S} {ss ss' : Ss} {it : It} {tg : Tg} {i : Nat}
theorem kand {P : Prop} {Q : Prop} (h : P) : (P ∧ Q) = Q := propext ⟨fun z => z.2, fun z => ⟨h, z⟩⟩
theorem dep_int {m n : Int} : min (PyData.int m).depth (PyData.int n).depth ≤ 60 := by simp [PyData.depth]
theorem c_lt_i {m n : Int} : cmpD .Lt (.int m) (.int n) kB = kB (decide (m < n)) := by
  show (LtOk _ _ ∧ _) = _
  rw [kand ⟨rfl, (fun z => by cases z), dep_int⟩, dataLt_int]
theorem c_gt_i {m n : Int} : cmpD .Gt (.int m) (.int n) kB = kB (decide (n < m)) := by
  show (LtOk _ _ ∧ _) = _
  rw [kand ⟨rfl, (fun z => by cases z), dep_int⟩, dataLt_int]
theorem c_le_i {m n : Int} : cmpD .LtE (.int m) (.int n) kB = kB (decide (m ≤ n)) := by
  show (LtOk _ _ ∧ _) = _
  rw [kand ⟨rfl, (fun z => by cases z), dep_int⟩, dataLt_int]
  congr 1
  by_cases h : m ≤ n
  · rw [decide_eq_true h, decide_eq_false (by omega)]; rfl
  · rw [decide_eq_false h, decide_eq_true (by omega)]; rfl
theorem c_ge_i {m n : Int} : cmpD .GtE (.int m) (.int n) kB = kB (decide (n ≤ m)) := by
  show (LtOk _ _ ∧ _) = _
  rw [kand ⟨rfl, (fun z => by cases z), dep_int⟩, dataLt_int]
  congr 1
  by_cases h : n ≤ m
  · rw [decide_eq_true h, decide_eq_false (by omega)]; rfl
  · rw [decide_eq_false h, decide_eq_true (by omega)]; rfl
theorem c_eq_i {m n : Int} : cmpD .Eq (.int m) (.int n) kB = kB (decide (m = n)) := by
  show (CmpOk _ _ ∧ _) = _
  rw [kand (show CmpOk _ _ from dep_int)]
  rfl
theorem c_ne_i {m n : Int} : cmpD .NotEq (.int m) (.int n) kB = kB (!decide (m = n)) := by
  show (CmpOk _ _ ∧ _) = _
  rw [kand (show CmpOk _ _ from dep_int)]
  rfl
theorem c_eq_s {m n : Str} : cmpD .Eq (.str m) (.str n) kB = kB (decide (m = n)) := by
  show (CmpOk _ _ ∧ _) = _
  rw [kand (show CmpOk _ _ by simp [CmpOk, PyData.depth])]
  rfl
theorem c_ne_s {m n : Str} : cmpD .NotEq (.str m) (.str n) kB = kB (!decide (m = n)) := by
  show (CmpOk _ _ ∧ _) = _
  rw [kand (show CmpOk _ _ by simp [CmpOk, PyData.depth])]
  rfl
theorem c_eq_b {m n : Bool} : cmpD .Eq (.bool m) (.bool n) kB = kB (decide (m = n)) := by
  show (CmpOk _ _ ∧ _) = _
  rw [kand (show CmpOk _ _ by simp [CmpOk, PyData.depth])]
  cases m <;> cases n <;> rfl
theorem c_ne_b {m n : Bool} : cmpD .NotEq (.bool m) (.bool n) kB = kB (!decide (m = n)) := by
  show (CmpOk _ _ ∧ _) = _
  rw [kand (show CmpOk _ _ by simp [CmpOk, PyData.depth])]
  cases m <;> cases n <;> rfl
theorem c_lt_s {m n : Str} : cmpD .Lt (.str m) (.str n) kB = kB (decide (m.cps.toList < n.cps.toList)) := by
  show (LtOk _ _ ∧ _) = _
  rw [kand ⟨rfl, (fun z => by cases z), by simp [PyData.depth]⟩, dataLt_str]
theorem c_is : cmpD .Is x y kB = isD x y kB := id rfl
theorem c_isn : cmpD .IsNot x y kB = isD x y fun c => kB (!c) := id rfl
theorem c_in : cmpD .In x y kB = inD x y kB := id rfl
theorem c_nin : cmpD .NotIn x y kB = inD x y fun c => kB (!c) := id rfl
theorem i_nn : isD .none .none kB = kB true := id rfl
theorem i_bb {a b : Bool} : isD (.bool a) (.bool b) kB = kB (decide (a = b)) := id rfl
theorem i_in {n : Int} : isD (.int n) .none kB = kB false := id rfl
theorem i_sn {n : Str} : isD (.str n) .none kB = kB false := id rfl
theorem i_ln {n : List D} : isD (.list n) .none kB = kB false := id rfl
theorem i_tn {n : List D} : isD (.tuple n) .none kB = kB false := id rfl
theorem i_bn {n : Bool} : isD (.bool n) .none kB = kB false := id rfl
theorem n_list {ys : List D} : inD x (.list ys) kB = (min (PyData.depthAll ys) x.depth ≤ 60 ∧ kB (ys.any fun z => PyData.eqv z x)) := id rfl
theorem n_tuple {ys : List D} : inD x (.tuple ys) kB = (min (PyData.depthAll ys) x.depth ≤ 60 ∧ kB (ys.any fun z => PyData.eqv z x)) := id rfl
theorem x_list {xs : List D} {n : Int} : ixD (.list xs) (.int n) kd = slotC (atI xs n) kd := id rfl
theorem x_tup {xs : List D} {n : Int} : ixD (.tuple xs) (.int n) kd = slotC (atI xs n) kd := id rfl
theorem at_nat {α : Type} {xs : List α} {k : Nat} : atI xs (k : Int) = xs[k]? := by
  unfold atI ixN
  rw [if_pos (by omega)]
  by_cases h : k < xs.length
  · rw [if_pos (by omega)]; simp
  · rw [if_neg (by omega), List.getElem?_eq_none (by omega)]; rfl
theorem at_lit {α : Type} {xs : List α} {n : Nat} : atI xs (no_index (@OfNat.ofNat Int n _)) = xs[(no_index (@OfNat.ofNat Nat n _))]? := at_nat (k := n)
theorem s_list {xs : List D} {lo hi : Option Int} : slD (.list xs) lo hi kd = kd (.list (cutL xs lo hi)) := id rfl
theorem s_tuple {xs : List D} {lo hi : Option Int} : slD (.tuple xs) lo hi kd = kd (.tuple (cutL xs lo hi)) := id rfl
theorem r_list {xs : List D} : revD (.list xs) kd = kd (.list xs.reverse) := id rfl
theorem r_tuple {xs : List D} : revD (.tuple xs) kd = kd (.tuple xs.reverse) := id rfl
theorem ex_int {n : Int} {P : Int → Prop} : (∃ m, PyData.int n = .int m ∧ P m) = P n := propext ⟨fun ⟨_, q, r⟩ => by cases q; exact r, fun q => ⟨_, rfl, q⟩⟩
theorem ex_lst {n : List D} {P : List D → Prop} : (∃ m, PyData.list n = .list m ∧ P m) = P n := propext ⟨fun ⟨_, q, r⟩ => by cases q; exact r, fun q => ⟨_, rfl, q⟩⟩
theorem bl_list {ys : List D} : biD .len [.list ys] kd = kd (.int ys.length) := id rfl
theorem bl_tuple {ys : List D} : biD .len [.tuple ys] kd = kd (.int ys.length) := id rfl
theorem bl_str {z : Str} : biD .len [.str z] kd = (z.length ≤ sizeLine ∧ kd (.int z.length)) := id rfl
theorem b_abs {n : Int} : biD .abs [.int n] kd = kd (.int (if n < 0 then -n else n)) := id rfl
theorem b_int {n : Int} : biD .int [.int n] kd = kd (.int n) := id rfl
theorem b_str {n : Int} : biD .str [.int n] kd = (n.natAbs.log2 < 1920 ∧ kd (.str (toString n))) := id rfl
theorem b_sum {ys : List D} {n : Int} (h : sumI ys = some n) : biD .sum [.list ys] kd = kd (.int n) := by
  show (∃ n, sumI ys = some n ∧ kd (.int n)) = _
  rw [h]; exact propext ⟨fun ⟨_, q, r⟩ => by cases q; exact r, fun q => ⟨_, rfl, q⟩⟩
theorem map_bool_inj : ∀ {as bs : List Bool}, as.map PyData.bool = bs.map PyData.bool → as = bs
  | [], [], _ => rfl
  | a :: as, b :: bs, h => by
    simp only [List.map_cons, List.cons.injEq, PyData.bool.injEq] at h
    rw [h.1, map_bool_inj h.2]
  | [], _ :: _, h => by cases h
  | _ :: _, [], h => by cases h
theorem b_list {ys : List D} : biD .list [.list ys] kd = kd (.list ys) := id rfl
theorem b_listT {ys : List D} : biD .list [.tuple ys] kd = kd (.list ys) := id rfl
theorem b_tuple {ys : List D} : biD .tuple [.list ys] kd = kd (.tuple ys) := id rfl
theorem b_tupleT {ys : List D} : biD .tuple [.tuple ys] kd = kd (.tuple ys) := id rfl
theorem b_min2 {m n : Int} : biD .min2 [.int m, .int n] kd = kd (.int (if n < m then n else m)) := id rfl
theorem b_max2 {m n : Int} : biD .max2 [.int m, .int n] kd = kd (.int (if n > m then n else m)) := id rfl
/-! statements -/
theorem ss_nil : execs C .nil ρ K = K.nx ρ := id rfl
theorem ss_cons : execs C (.cons s ss) ρ K = exec C s ρ ⟨fun ρ' => execs C ss ρ' K, K.rt, K.bk, K.ct⟩ := id rfl
theorem x_asg : exec C (.asg tg e) ρ K = ev C e ρ fun v ρ1 => cap v fun d => tgt tg d ρ1 K.nx := id rfl
theorem x_own : exec C (.own i e) ρ K = (frs0 e = true ∧ ev C e ρ fun v ρ1 => cap v fun d => ∃ xs, d = .list xs ∧ K.nx (ρ1.set i (some (.own d)))) := id rfl
def slotF (o : Option (Option Vl)) (i : Nat) (ρ : En) (k : En → Prop) : Prop := match o with
  | some (some (.own x)) => k (ρ.set i (some (.d x)))
  | _ => k ρ
def slotI (o : Option (Option Vl)) (k : Int → Prop) : Prop := match o with
  | some (some (.d (.int n))) => k n
  | _ => False
theorem x_frz : exec C (.frz i) ρ K = slotF ρ[i]? i ρ K.nx := id rfl
theorem sF_own {k : En → Prop} : slotF (some (some (.own x))) i ρ k = k (ρ.set i (some (.d x))) := id rfl
theorem sF_d {k : En → Prop} : slotF (some (some (.d x))) i ρ k = k ρ := id rfl
theorem sI_int {n : Int} {k : Int → Prop} : slotI (some (some (.d (.int n)))) k = k n := id rfl
theorem x_par2 {j : Nat} {oi oj : Bool} {a b : Ex} : exec C (.par2 i j oi oj a b) ρ K = ev C a ρ fun v ρ1 => ev C b ρ1 fun w ρ2 => cap v fun d => cap w fun e => slotOk oi a d ∧ slotOk oj b e ∧ K.nx ((ρ2.set i (some (slotV oi d))).set j (some (slotV oj e))) := id rfl
theorem x_augA : exec C (.aug i .Add e) ρ K = slotI ρ[i]? fun n => ev C e ρ fun v ρ1 => bor ρ1 v fun y => ∃ m, y = .int m ∧ K.nx (ρ1.set i (some (.d (.int (n + m))))) := by
  simp only [exec]
  unfold slotI
  generalize ρ[i]? = o
  split <;> simp
theorem x_augS : exec C (.aug i .Sub e) ρ K = slotI ρ[i]? fun n => ev C e ρ fun v ρ1 => bor ρ1 v fun y => ∃ m, y = .int m ∧ K.nx (ρ1.set i (some (.d (.int (n - m))))) := by
  simp only [exec]
  unfold slotI
  generalize ρ[i]? = o
  split <;> simp
theorem isOwn_eq : isOwn ρ i = slotL ρ[i]? fun _ => True := id rfl
theorem x_app : exec C (.app i e) ρ K = ((slotL ρ[i]? fun _ => True) ∧ ev C e ρ fun v ρ1 => cap v fun d => slotL ρ1[i]? fun xs => xs.length < sizeLine ∧ K.nx (ρ1.set i (some (.own (.list (xs ++ [d])))))) := id rfl
theorem x_ext : exec C (.ext i e) ρ K = ((slotL ρ[i]? fun _ => True) ∧ ev C e ρ fun v ρ1 => bor ρ1 v fun d => slotL ρ1[i]? fun xs => ∃ ys, d = .list ys ∧ xs.length + ys.length ≤ sizeLine ∧ K.nx (ρ1.set i (some (.own (.list (xs ++ ys)))))) := id rfl
theorem x_setI {ix : Ex} : exec C (.setI i ix e) ρ K = ev C e ρ fun v ρ1 => (slotL ρ1[i]? fun _ => True) ∧ ev C ix ρ1 fun w ρ2 => cap v fun d => bor ρ2 w fun di => slotL ρ2[i]? fun xs => ∃ n j, di = .int n ∧ ixN xs.length n = some j ∧ K.nx (ρ2.set i (some (.own (.list (xs.set j d))))) := id rfl
theorem x_drop : exec C (.drop e) ρ K = ev C e ρ fun _ ρ1 => K.nx ρ1 := id rfl
theorem x_ifs : exec C (.ifs c ss ss') ρ K = ev C c ρ fun rv ρ1 => bor ρ1 rv fun d => truthD d fun t => if t = true then execs C ss ρ1 K else execs C ss' ρ1 K := id rfl
theorem x_for : exec C (.forS tg it ss) ρ K = itv C it ρ fun xs ρ1 => forL (fun x ρ2 k => tgt tg x ρ2 fun ρ3 => execs C ss ρ3 ⟨k, K.rt, K.nx, k⟩) xs ρ1 K.nx := id rfl
theorem x_whl (W : Nat → En → Prop) (m : Nat) (h0 : W m ρ) (h : ∀ m ρ, W m ρ → ev C c ρ fun rv ρ1 => bor ρ1 rv fun d => truthD d fun t => if t = true then execs C ss ρ1 ⟨fun ρ2 => ∃ m', m' < m ∧ W m' ρ2, K.rt, K.nx, fun ρ2 => ∃ m', m' < m ∧ W m' ρ2⟩ else K.nx ρ1) : exec C (.whl c ss) ρ K := ⟨W, ⟨m, h0⟩, h⟩
theorem x_ret : exec C (.ret e) ρ K = ev C e ρ fun v ρ1 => bor ρ1 v K.rt := id rfl
theorem x_retN : exec C .retN ρ K = K.rt .none := id rfl
theorem x_brk : exec C .brk ρ K = K.bk ρ := id rfl
theorem x_cnt : exec C .cnt ρ K = K.ct ρ := id rfl
theorem x_pass : exec C .pass ρ K = K.nx ρ := id rfl
theorem tg_nm {k : En → Prop} : tgt (.nm i) x ρ k = k (ρ.set i (some (.d x))) := id rfl
def slotR (o : Option En) (k : En → Prop) : Prop := ∃ ρ, o = some ρ ∧ k ρ
theorem sR_some {k : En → Prop} : slotR (some ρ) k = k ρ := propext ⟨fun ⟨_, q, r⟩ => by cases q; exact r, fun q => ⟨_, rfl, q⟩⟩
theorem tg_tp {k : En → Prop} {is : List Nat} {xs : List D} : tgt (.tp is) (.tuple xs) ρ k = slotR (setAll is xs ρ) k := id rfl
theorem sa_nil : setAll [] [] ρ = some ρ := id rfl
theorem sa_cons {is : List Nat} {xs : List D} : setAll (i :: is) (x :: xs) ρ = setAll is xs (ρ.set i (some (.d x))) := id rfl
def seqK (d : D) (k : List D → Prop) : Prop := match d with
  | .list xs => k xs
  | .tuple xs => k xs
  | .str s => k (s.cps.toList.map fun c => .str ⟨#[c]⟩)
  | _ => False
theorem i_seq {k : List D → En → Prop} : itv C (.seq e) ρ k = ev C e ρ fun v ρ1 => cap v fun d => seqK d fun xs => k xs ρ1 := by
  show (ev C e ρ fun v ρ1 => cap v fun d => match d with
    | .list xs => k xs ρ1
    | .tuple xs => k xs ρ1
    | .str s => k (s.cps.toList.map fun c => .str ⟨#[c]⟩) ρ1
    | _ => False) = _
  rfl
theorem q_list {xs : List D} {k : List D → Prop} : seqK (.list xs) k = k xs := id rfl
theorem q_tuple {xs : List D} {k : List D → Prop} : seqK (.tuple xs) k = k xs := id rfl
theorem q_str {s : Str} {k : List D → Prop} : seqK (.str s) k = k (s.cps.toList.map fun c => .str ⟨#[c]⟩) := id rfl
theorem i_rng1 {k : List D → En → Prop} : itv C (.rng1 e) ρ k = ev C e ρ fun v ρ1 => bor ρ1 v fun d => ∃ n, d = .int n ∧ (-(2 ^ 62) ≤ n ∧ n < 2 ^ 62) ∧ k (rngL 0 n) ρ1 := id rfl
theorem i_rng2 {k : List D → En → Prop} : itv C (.rng2 e c) ρ k = ev C e ρ fun v ρ1 => ev C c ρ1 fun w ρ2 => bor ρ2 v fun d => bor ρ2 w fun e => ∃ n m, d = .int n ∧ e = .int m ∧ (-(2 ^ 62) ≤ n ∧ n < 2 ^ 62 ∧ -(2 ^ 62) ≤ m ∧ m < 2 ^ 62) ∧ k (rngL n m) ρ2 := id rfl
theorem i_rng3 {a b : Ex} {k : List D → En → Prop} : itv C (.rng3 a b c) ρ k = ev C a ρ fun v ρ1 => ev C b ρ1 fun w ρ2 => ev C c ρ2 fun u ρ3 => bor ρ3 v fun d => bor ρ3 w fun e => bor ρ3 u fun f => ∃ n m s t, d = .int n ∧ e = .int m ∧ f = .int s ∧ RgC n m s t ∧ k (rngC n s t) ρ3 := id rfl
theorem i_enum {k : List D → En → Prop} : itv C (.enum e) ρ k = ev C e ρ fun v ρ1 => cap v fun d => enumK d fun xs => k xs ρ1 := id rfl
theorem i_zip {a b : Ex} {k : List D → En → Prop} : itv C (.zip a b) ρ k = ev C a ρ fun v ρ1 => ev C b ρ1 fun w ρ2 => cap v fun d => cap w fun e => zipK d e fun xs => k xs ρ2 := id rfl
theorem en_list {xs : List D} {k : List D → Prop} : enumK (.list xs) k = k (enumL xs) := id rfl
theorem en_tuple {xs : List D} {k : List D → Prop} : enumK (.tuple xs) k = k (enumL xs) := id rfl
theorem zp_list {xs ys : List D} {k : List D → Prop} : zipK (.list xs) (.list ys) k = k (zipL xs ys) := id rfl
theorem zp_tuple {xs ys : List D} {k : List D → Prop} : zipK (.tuple xs) (.tuple ys) k = k (zipL xs ys) := id rfl
theorem e_listI {k : RV → En → Prop} : ev C (.listI it) ρ k = itv C it ρ fun xs ρ1 => xs.length ≤ sizeLine ∧ k (.d (.list xs)) ρ1 := id rfl
theorem e_tupI {k : RV → En → Prop} : ev C (.tupI it) ρ k = itv C it ρ fun xs ρ1 => xs.length ≤ sizeLine ∧ k (.d (.tuple xs)) ρ1 := id rfl
theorem e_lc2 {vs vs2 : List Nat} {tg2 : Tg} {it2 : It} {cs cs2 : Es} {k : RV → En → Prop} : ev C (.lc2 e vs tg it cs vs2 tg2 it2 cs2) ρ k = itv C it ρ fun xs ρ1 =>
      lcx (fun x ρ2 acc k2 => tgt tg x (wipeR ρ2 vs) fun ρ3 => evc C cs ρ3 fun b ρ4 => if b = true then
        itv C it2 ρ4 fun ys ρ5 => lcl (fun y ρ6 k3 => tgt tg2 y (wipeR ρ6 vs2) fun ρ7 => evc C cs2 ρ7 fun b ρ8 => if b = true then ev C e ρ8 fun v ρ9 => cap v fun d => k3 (some d) ρ9 else k3 none ρ8) ys ρ5 acc k2
        else k2 acc ρ4) xs ρ1 [] fun acc ρ6 => k (.d (.list acc)) (back ρ1 ρ6 vs) := id rfl
theorem fr_listI : frs0 (.listI it) = true := id rfl
theorem fr_lc2 {vs vs2 : List Nat} {tg2 : Tg} {it2 : It} {cs cs2 : Es} : frs0 (.lc2 e vs tg it cs vs2 tg2 it2 cs2) = true := id rfl
theorem e_sset {k : RV → En → Prop} : ev C (.sset e) ρ k = ev C e ρ fun v ρ1 => bor ρ1 v fun d => ssetK d fun r => k (.d (.list r)) ρ1 := id rfl
theorem fr_sset : frs0 (.sset e) = true := id rfl
theorem e_ixof {i : Nat} {k : RV → En → Prop} : ev C (.ixof i e) ρ k = slotX ρ[i]? fun x => isiD x .list = true ∧ ev C e ρ fun v ρ1 => slotX ρ1[i]? fun x => bor ρ1 v fun d => ixofD x d fun j => k (.d (.int j)) ρ1 := id rfl
theorem sset_list {xs : List D} {k : List D → Prop} : ssetK (.list xs) k = (xs.length + 1 < scanBound ∧ ((∃ ks : List Str, xs = ks.map .str ∧ ∀ bs, SG.Outc SG.leS ks bs → k (bs.map .str)) ∨ (∃ ks : List Int, xs = ks.map .int ∧ ∀ bs, SG.Outc (· ≤ ·) ks bs → k (bs.map .int)))) := id rfl
theorem sset_tuple {xs : List D} {k : List D → Prop} : ssetK (.tuple xs) k = (xs.length + 1 < scanBound ∧ ((∃ ks : List Str, xs = ks.map .str ∧ ∀ bs, SG.Outc SG.leS ks bs → k (bs.map .str)) ∨ (∃ ks : List Int, xs = ks.map .int ∧ ∀ bs, SG.Outc (· ≤ ·) ks bs → k (bs.map .int)))) := id rfl
theorem sk_f : slotOk false e x = True := eq_true fun z => by cases z
theorem sk_t {xs : List D} : slotOk true e (.list xs) = (frs0 e = true) := propext ⟨fun z => (z rfl).1, fun z _ => ⟨z, xs, rfl⟩⟩
theorem sv_f : slotV false x = .d x := id rfl
theorem sv_t : slotV true x = .own x := id rfl
theorem io_d : isO (.d x) = false := id rfl
theorem io_o : isO (.o i) = true := id rfl
theorem io_b : isO .box = false := id rfl
end
theorem ctx_call {G : Pg} {n f : Nat} {as : List Arg} {kd : D → Prop} : (ctx G n).call f as kd = callN G n f as kd := id rfl
theorem ctx_cst {G : Pg} {n f : Nat} : (ctx G n).cst f = G.cst f := id rfl
/-- a draw -/
theorem draw_at {G : Pg} {f m : Nat} (hf : G.fns f = none) (h0 : G.k0 ≤ m) (hp : ∀ as kd, pDraw as kd → G.prim f as kd) {n : Int} {kd : D → Prop} (h1 : 0 < n) (h2 : n.natAbs < 2 ^ 64) (q : ∀ k : Int, 0 ≤ k → k < n → kd (.int k)) : callN G (m + 1) f [.box, .d (.int n)] kd := by
  show (match G.fns f with | some F => execs ⟨callN G m, G.cst⟩ F.body (entry F.sz [.box, .d (.int n)]) (retE kd) | none => G.k0 ≤ m ∧ G.prim f [.box, .d (.int n)] kd)
  rw [hf]
  refine ⟨h0, hp _ _ ⟨⟨h1, ?_⟩, q⟩⟩
  have := (Nat.log2_lt (show n.natAbs ≠ 0 by omega)).mpr h2
  omega
theorem divW {m n : Int} (h1 : 0 < n) (h2 : n.natAbs < 2 ^ 64) : CDivW m n := ⟨h1, by
  have := (Nat.log2_lt (show n.natAbs ≠ 0 by omega)).mpr h2
  omega⟩
theorem mulL {m n : Int} (h : m.natAbs < 2 ^ 64) : MulOk m n := .inl (.inl ⟨by omega, by omega⟩)
theorem mulR {m n : Int} (h : n.natAbs < 2 ^ 64) : MulOk m n := .inl (.inr ⟨by omega, by omega⟩)
end DD

/-! DX4: more equations: kinds, short walks. -/
namespace DD
open PySem PySem.Spec PyProof.Rows L2 PySem.W
theorem is_none_int : isiD .none .int = false := id rfl
theorem is_none_bool : isiD .none .bool = false := id rfl
theorem is_none_str : isiD .none .str = false := id rfl
theorem is_none_tuple : isiD .none .tuple = false := id rfl
theorem is_none_list : isiD .none .list = false := id rfl
theorem is_bool_int {b : Bool} : isiD (.bool b) .int = true := id rfl
theorem is_bool_bool {b : Bool} : isiD (.bool b) .bool = true := id rfl
theorem is_bool_str {b : Bool} : isiD (.bool b) .str = false := id rfl
theorem is_bool_tuple {b : Bool} : isiD (.bool b) .tuple = false := id rfl
theorem is_bool_list {b : Bool} : isiD (.bool b) .list = false := id rfl
theorem is_int_int {n : Int} : isiD (.int n) .int = true := id rfl
theorem is_int_bool {n : Int} : isiD (.int n) .bool = false := id rfl
theorem is_int_str {n : Int} : isiD (.int n) .str = false := id rfl
theorem is_int_tuple {n : Int} : isiD (.int n) .tuple = false := id rfl
theorem is_int_list {n : Int} : isiD (.int n) .list = false := id rfl
theorem is_str_int {s : Str} : isiD (.str s) .int = false := id rfl
theorem is_str_bool {s : Str} : isiD (.str s) .bool = false := id rfl
theorem is_str_str {s : Str} : isiD (.str s) .str = true := id rfl
theorem is_str_tuple {s : Str} : isiD (.str s) .tuple = false := id rfl
theorem is_str_list {s : Str} : isiD (.str s) .list = false := id rfl
theorem is_list_int {xs : List D} : isiD (.list xs) .int = false := id rfl
theorem is_list_bool {xs : List D} : isiD (.list xs) .bool = false := id rfl
theorem is_list_str {xs : List D} : isiD (.list xs) .str = false := id rfl
theorem is_list_tuple {xs : List D} : isiD (.list xs) .tuple = false := id rfl
theorem is_list_list {xs : List D} : isiD (.list xs) .list = true := id rfl
theorem is_tuple_int {xs : List D} : isiD (.tuple xs) .int = false := id rfl
theorem is_tuple_bool {xs : List D} : isiD (.tuple xs) .bool = false := id rfl
theorem is_tuple_str {xs : List D} : isiD (.tuple xs) .str = false := id rfl
theorem is_tuple_tuple {xs : List D} : isiD (.tuple xs) .tuple = true := id rfl
theorem is_tuple_list {xs : List D} : isiD (.tuple xs) .list = false := id rfl
theorem is_dict_int {xs : List (D × D)} : isiD (.dict xs) .int = false := id rfl
theorem is_dict_bool {xs : List (D × D)} : isiD (.dict xs) .bool = false := id rfl
theorem is_dict_str {xs : List (D × D)} : isiD (.dict xs) .str = false := id rfl
theorem is_dict_tuple {xs : List (D × D)} : isiD (.dict xs) .tuple = false := id rfl
theorem is_dict_list {xs : List (D × D)} : isiD (.dict xs) .list = false := id rfl
section
variable {C : Ctx} {ρ : En} {kd : D → Prop} {x : D} {i : Nat}
theorem fa_n : flat .none = true := id rfl
theorem fa_b {b : Bool} : flat (.bool b) = true := id rfl
theorem fa_i {n : Int} : flat (.int n) = true := id rfl
theorem fa_s {n : Str} : flat (.str n) = true := id rfl
theorem fr_lst {es : Es} : frs0 (.lst es) = true := id rfl
theorem fr_bin {op : Operator} {a b : Ex} : frs0 (.bin op a b) = true := id rfl
theorem fr_slc {a : Ex} {l h : Eo} : frs0 (.slc a l h) = true := id rfl
theorem fr_lc {a : Ex} {vs : List Nat} {t : Tg} {it : DD.It} {cs : Es} : frs0 (.lc a vs t it cs) = true := id rfl
theorem fr_sorted {es : Es} : frs0 (.bi .sorted es) = true := id rfl
theorem fr_list {es : Es} : frs0 (.bi .list es) = true := id rfl
theorem szv : sizeLine = 16777216 := id rfl
def optK (o : Option D) (acc : List D) (ρ : En) (k : List D → En → Prop) : Prop := match o with
  | some d => acc.length < sizeLine ∧ k (acc ++ [d]) ρ
  | none => k acc ρ
theorem ok_some {acc : List D} {k : List D → En → Prop} : optK (some x) acc ρ k = (acc.length < sizeLine ∧ k (acc ++ [x]) ρ) := id rfl
theorem ok_none {acc : List D} {k : List D → En → Prop} : optK none acc ρ k = k acc ρ := id rfl
theorem lcl_nil {f : D → En → (Option D → En → Prop) → Prop} {acc : List D} {k : List D → En → Prop} : lcl f [] ρ acc k = k acc ρ := id rfl
theorem lcl_cons {f : D → En → (Option D → En → Prop) → Prop} {acc xs : List D} {k : List D → En → Prop} : lcl f (x :: xs) ρ acc k = f x ρ fun o ρ' => optK o acc ρ' fun acc ρ' => lcl f xs ρ' acc k := by
  show (f x ρ fun o ρ' => match o with
    | some d => acc.length < sizeLine ∧ lcl f xs ρ' (acc ++ [d]) k
    | none => lcl f xs ρ' acc k) = _
  rfl
theorem fl_nil {f : D → En → (En → Prop) → Prop} {k : En → Prop} : forL f [] ρ k = k ρ := id rfl
theorem fl_cons {f : D → En → (En → Prop) → Prop} {xs : List D} {k : En → Prop} : forL f (x :: xs) ρ k = f x ρ fun ρ' => forL f xs ρ' k := id rfl
theorem wi_nil : wipeR ρ [] = ρ := id rfl
theorem wi_cons {vs : List Nat} : wipeR ρ (i :: vs) = (wipeR ρ vs).set i none := id rfl
theorem bk_nil {ρ' : En} : back ρ ρ' [] = ρ' := id rfl
theorem bk_cons {ρ' : En} {vs : List Nat} : back ρ ρ' (i :: vs) = (back ρ ρ' vs).set i (keepD ((ρ[i]?).getD none)) := id rfl
theorem kp_d : keepD (some (.d x)) = some (.d x) := id rfl
theorem kp_n : keepD none = none := id rfl
theorem kp_o : keepD (some (.own x)) = none := id rfl
theorem kp_b : keepD (some .box) = none := id rfl
def bools : List D → Option (List Bool)
  | [] => some []
  | .bool b :: r => (bools r).map (b :: ·)
  | _ :: _ => none
theorem bools_map : ∀ {ys : List D} {bs : List Bool}, bools ys = some bs ↔ ys = bs.map .bool
  | [], [] => ⟨fun _ => rfl, fun _ => rfl⟩
  | [], b :: bs => ⟨fun h => by simp [bools] at h, fun h => by simp at h⟩
  | y :: ys, bs => by
    cases y with
    | bool b =>
      have ih := @bools_map ys
      simp only [bools]
      cases bs with
      | nil => simp
      | cons c cs =>
        have := @ih cs
        cases q : bools ys with
        | none => rw [q] at this; simp at this ⊢; exact fun _ => this
        | some l =>
          rw [q] at this
          simp only [Option.map_some, Option.some.injEq, List.cons.injEq, List.map_cons, PyData.bool.injEq] at this ⊢
          rw [this]
    | _ => cases bs <;> simp [bools]
def seqA (a : D) (k : List D → Prop) : Prop := ∃ ys, seqOf a = some ys ∧ (∀ y ∈ ys, PyData.fits63 y) ∧ k ys
theorem b_allD {a : D} : biD .all [a] kd = seqA a fun ys => kd (.bool (ys.all PyData.truthy)) := id rfl
theorem b_anyD {a : D} : biD .any [a] kd = seqA a fun ys => kd (.bool (ys.any PyData.truthy)) := id rfl
theorem sqa_list {ys : List D} {k : List D → Prop} : seqA (.list ys) k = ((∀ y ∈ ys, PyData.fits63 y) ∧ k ys) := propext ⟨fun ⟨_, e, h, q⟩ => by cases e; exact ⟨h, q⟩, fun ⟨h, q⟩ => ⟨ys, rfl, h, q⟩⟩
theorem sqa_tuple {ys : List D} {k : List D → Prop} : seqA (.tuple ys) k = ((∀ y ∈ ys, PyData.fits63 y) ∧ k ys) := propext ⟨fun ⟨_, e, h, q⟩ => by cases e; exact ⟨h, q⟩, fun ⟨h, q⟩ => ⟨ys, rfl, h, q⟩⟩
/-- bools are no long data, and each is its own truth -/
theorem fits_bools {bs : List Bool} : ∀ y ∈ bs.map PyData.bool, PyData.fits63 y := fun y h => by
  obtain ⟨b, _, rfl⟩ := List.mem_map.mp h
  exact True.intro
theorem all_bools {bs : List Bool} : (bs.map PyData.bool).all PyData.truthy = bs.all id := by
  induction bs with
  | nil => rfl
  | cons b bs ih => rw [List.map_cons, List.all_cons, List.all_cons, ih]; rfl
theorem any_bools {bs : List Bool} : (bs.map PyData.bool).any PyData.truthy = bs.any id := by
  induction bs with
  | nil => rfl
  | cons b bs ih => rw [List.map_cons, List.any_cons, List.any_cons, ih]; rfl
theorem tr_bool {b : Bool} : PyData.truthy (.bool b) = b := id rfl
theorem ex_some {α : Type} {a : α} {P : α → Prop} : (∃ b, some a = some b ∧ P b) = P a := propext ⟨fun ⟨_, q, r⟩ => by cases q; exact r, fun q => ⟨_, rfl, q⟩⟩
theorem bo_nil : bools [] = some [] := id rfl
theorem bo_cons {b : Bool} {r : List D} : bools (.bool b :: r) = (bools r).map (b :: ·) := id rfl
end
end DD

/-! DM: the least and the greatest of data, rows of numbers, walks over typed lists. -/
namespace DD
open PySem PySem.Spec PyProof.Rows L2 PySem.W
theorem dl_irr (a : D) : dataLt a a = false := lex_irrefl _
theorem dl_trans {a b c : D} (h : dataLt a b = true) (h2 : dataLt b c = true) : dataLt a c = true := lex_trans _ _ _ h h2
theorem dl_asym {a b : D} (h : dataLt a b = true) : dataLt b a = false := by
  cases q : dataLt b a with
  | false => rfl
  | true => have := dl_trans h q; rw [dl_irr] at this; cases this
theorem dl_neg {a b c : D} (h : dataLt a c = true) : dataLt a b = true ∨ dataLt b c = true := lex_negTrans _ _ _ h
theorem minD_mem : ∀ (y : D) (ys : List D), minD y ys ∈ y :: ys
  | y, [] => List.mem_cons_self
  | y, z :: ys => by
    show minD (if dataLt z y then z else y) ys ∈ _
    have := minD_mem (if dataLt z y then z else y) ys
    rcases List.mem_cons.mp this with e | e
    · rw [e]; split
      · simp
      · simp
    · exact List.mem_cons_of_mem _ (List.mem_cons_of_mem _ e)
theorem minD_le : ∀ (y : D) (ys : List D), ∀ x ∈ y :: ys, dataLt x (minD y ys) = false
  | y, [], x, h => by rw [List.mem_singleton.mp h]; exact dl_irr _
  | y, z :: ys, x, h => by
    show dataLt x (minD (if dataLt z y then z else y) ys) = false
    have ih := minD_le (if dataLt z y then z else y) ys
    have g : dataLt x (if dataLt z y then z else y) = false → dataLt x (minD (if dataLt z y then z else y) ys) = false := fun q => by
      cases w : dataLt x (minD (if dataLt z y then z else y) ys) with
      | false => rfl
      | true =>
        have i0 := ih _ List.mem_cons_self
        rcases dl_neg (b := if dataLt z y then z else y) w with e | e
        · rw [q] at e; cases e
        · rw [i0] at e; cases e
    rcases List.mem_cons.mp h with rfl | h
    · apply g
      cases w : dataLt z x with
      | true => simp only [if_true]; exact dl_asym w
      | false => simp only [Bool.false_eq_true, if_false]; exact dl_irr _
    · rcases List.mem_cons.mp h with rfl | h
      · apply g
        cases w : dataLt x y with
        | true => simp only [if_true]; exact dl_irr _
        | false => simp only [Bool.false_eq_true, if_false]; exact w
      · exact ih x (List.mem_cons_of_mem _ h)
/-- the one that is less than all others -/
theorem minD_is {y t : D} {ys : List D} (h : t ∈ y :: ys) (h2 : ∀ x ∈ y :: ys, x = t ∨ dataLt t x = true) : minD y ys = t := by
  rcases h2 _ (minD_mem y ys) with e | e
  · exact e
  · rw [minD_le y ys t h] at e; cases e
theorem maxD_mem : ∀ (y : D) (ys : List D), maxD y ys ∈ y :: ys
  | y, [] => List.mem_cons_self
  | y, z :: ys => by
    show maxD (if dataLt y z then z else y) ys ∈ _
    have := maxD_mem (if dataLt y z then z else y) ys
    rcases List.mem_cons.mp this with e | e
    · rw [e]; split
      · simp
      · simp
    · exact List.mem_cons_of_mem _ (List.mem_cons_of_mem _ e)
theorem maxD_ge : ∀ (y : D) (ys : List D), ∀ x ∈ y :: ys, dataLt (maxD y ys) x = false
  | y, [], x, h => by rw [List.mem_singleton.mp h]; exact dl_irr _
  | y, z :: ys, x, h => by
    show dataLt (maxD (if dataLt y z then z else y) ys) x = false
    have ih := maxD_ge (if dataLt y z then z else y) ys
    have g : dataLt (if dataLt y z then z else y) x = false → dataLt (maxD (if dataLt y z then z else y) ys) x = false := fun q => by
      cases w : dataLt (maxD (if dataLt y z then z else y) ys) x with
      | false => rfl
      | true =>
        have i0 := ih _ List.mem_cons_self
        rcases dl_neg (b := if dataLt y z then z else y) w with e | e
        · rw [i0] at e; cases e
        · rw [q] at e; cases e
    rcases List.mem_cons.mp h with rfl | h
    · apply g
      cases w : dataLt x z with
      | true => simp only [if_true]; exact dl_asym w
      | false => simp only [Bool.false_eq_true, if_false]; exact dl_irr _
    · rcases List.mem_cons.mp h with rfl | h
      · apply g
        cases w : dataLt y x with
        | true => simp only [if_true]; exact dl_irr _
        | false => simp only [Bool.false_eq_true, if_false]; exact w
      · exact ih x (List.mem_cons_of_mem _ h)
theorem maxD_is {y t : D} {ys : List D} (h : t ∈ y :: ys) (h2 : ∀ x ∈ y :: ys, x = t ∨ dataLt x t = true) : maxD y ys = t := by
  rcases h2 _ (maxD_mem y ys) with e | e
  · exact e
  · rw [maxD_ge y ys t h] at e; cases e
/-! ### min, max of typed rows -/
/-- min of a row that holds a least one -/
theorem b_min_is {kd : D → Prop} {xs : List D} {t : D} (h : t ∈ xs) (h2 : ∀ x ∈ xs, x = t ∨ dataLt t x = true) (h3 : AllLt xs) (q : kd t) : biD .min [.list xs] kd := by
  cases xs with
  | nil => cases h
  | cons y ys => exact ⟨y, ys, rfl, h3, by rw [minD_is h h2]; exact q⟩
theorem b_max_is {kd : D → Prop} {xs : List D} {t : D} (h : t ∈ xs) (h2 : ∀ x ∈ xs, x = t ∨ dataLt x t = true) (h3 : AllLt xs) (q : kd t) : biD .max [.list xs] kd := by
  cases xs with
  | nil => cases h
  | cons y ys => exact ⟨y, ys, rfl, h3, by rw [maxD_is h h2]; exact q⟩
theorem depthAll_le {n : Nat} : ∀ {xs : List D}, (∀ x ∈ xs, x.depth ≤ n) → PyData.depthAll xs ≤ n
  | [], _ => by simp [PyData.depthAll]
  | x :: xs, h => by
    rw [PyData.depthAll]
    have := h x List.mem_cons_self
    have := depthAll_le (xs := xs) fun y hy => h y (List.mem_cons_of_mem _ hy)
    omega
/-- rows that are all of one Lean type -/
theorem allLt_map {α β : Type} [DecidableEq α] [DatumOrd α] {n : Nat} (hn : n ≤ 60) (f : β → α) {xs : List β} (hd : ∀ x ∈ xs, (Datum.toD (f x)).depth ≤ n) : AllLt (xs.map fun x => Datum.toD (f x)) := by
  refine ⟨⟨fun x hx y hy => ?_, fun x hx => ?_⟩, Nat.le_trans (depthAll_le fun x hx => ?_) hn⟩
  · obtain ⟨a, _, rfl⟩ := List.mem_map.mp hx
    obtain ⟨b, _, rfl⟩ := List.mem_map.mp hy
    exact DatumOrd.alike _ _
  · obtain ⟨a, _, rfl⟩ := List.mem_map.mp hx
    exact DatumOrd.notNone _
  · obtain ⟨a, ha, rfl⟩ := List.mem_map.mp hx
    exact hd a ha
theorem depth_ints : ∀ {xs : List Int}, PyData.depthAll (xs.map PyData.int) = 0
  | [] => rfl
  | x :: xs => by rw [List.map_cons, PyData.depthAll, depth_ints]; rfl
theorem dep_tint {xs : List Int} : PyData.depth (.tuple (xs.map .int)) = 1 := by rw [PyData.depth, depth_ints]
theorem dep_lint {xs : List Int} : PyData.depth (.list (xs.map .int)) = 1 := by rw [PyData.depth, depth_ints]
theorem allLt_ints {xs : List Int} : AllLt (xs.map .int) := by
  refine ⟨⟨fun x hx y hy => ?_, fun x hx => ?_⟩, by rw [depth_ints]; omega⟩
  · obtain ⟨a, _, rfl⟩ := List.mem_map.mp hx
    obtain ⟨b, _, rfl⟩ := List.mem_map.mp hy
    rfl
  · obtain ⟨a, _, rfl⟩ := List.mem_map.mp hx
    intro e; cases e
/-- a number and a row -/
def nrD (p : Int × List Int) : D := .tuple [.int p.1, .tuple (p.2.map .int)]
theorem alike_ints : ∀ {xs ys : List Int}, alikeAll (xs.map .int) (ys.map .int) = true
  | [], _ => by simp [alikeAll]
  | _ :: _, [] => by simp [alikeAll]
  | x :: xs, y :: ys => by rw [List.map_cons, List.map_cons, alikeAll, alike_ints, alike]; rfl
theorem alike_tints {xs ys : List Int} : alike (.tuple (xs.map .int)) (.tuple (ys.map .int)) = true := by rw [alike]; exact alike_ints
theorem alike_nr {p q : Int × List Int} : alike (nrD p) (nrD q) = true := by
  unfold nrD
  rw [alike, alikeAll, alikeAll, alikeAll, alike, alike_tints]; rfl
theorem eqv_ints : ∀ {xs ys : List Int}, PyData.eqvAll (xs.map .int) (ys.map .int) = decide (xs = ys)
  | [], [] => by simp [PyData.eqvAll]
  | [], _ :: _ => by simp [PyData.eqvAll]
  | _ :: _, [] => by simp [PyData.eqvAll]
  | x :: xs, y :: ys => by
    rw [List.map_cons, List.map_cons, PyData.eqvAll, PyData.eqv, eqv_ints]
    by_cases h : x = y <;> by_cases h2 : xs = ys <;> simp [h, h2]
theorem eqv_tints {xs ys : List Int} : PyData.eqv (.tuple (xs.map .int)) (.tuple (ys.map .int)) = decide (xs = ys) := by rw [PyData.eqv, eqv_ints]
theorem eqv_lints {xs ys : List Int} : PyData.eqv (.list (xs.map .int)) (.list (ys.map .int)) = decide (xs = ys) := by rw [PyData.eqv, eqv_ints]
theorem lt_tints {xs ys : List Int} : dataLt (.tuple (xs.map .int)) (.tuple (ys.map .int)) = decide (xs < ys) := by rw [dataLt_tuple]; exact dataLt_ints xs ys
theorem lt_nr {p q : Int × List Int} : dataLt (nrD p) (nrD q) = decide (p.1 < q.1 ∨ p.1 = q.1 ∧ p.2 < q.2) := by
  unfold nrD
  rw [dataLt_pair (by simp [alike]) alike_tints, dataLt_int, lt_tints, eqv_tints, PyData.eqv]
  by_cases h1 : p.1 = q.1
  · rw [if_pos (by simp [h1])]
    by_cases h2 : p.2 = q.2
    · rw [if_pos (by simp [h2])]
      exact (decide_eq_false (by rw [h1, h2]; simp)).symm
    · rw [if_neg (by simp [h2])]
      exact decide_eq_decide.mpr (by rw [h1]; simp)
  · rw [if_neg (by simp [h1])]
    exact decide_eq_decide.mpr (by simp [h1])
theorem allLt_nr {xs : List (Int × List Int)} : AllLt (xs.map nrD) := by
  refine ⟨⟨fun x hx y hy => ?_, fun x hx => ?_⟩, Nat.le_trans (depthAll_le (n := 2) fun x hx => ?_) (by decide)⟩
  · obtain ⟨a, _, rfl⟩ := List.mem_map.mp hx
    obtain ⟨b, _, rfl⟩ := List.mem_map.mp hy
    exact alike_nr
  · obtain ⟨a, _, rfl⟩ := List.mem_map.mp hx
    intro e; cases e
  · obtain ⟨a, _, rfl⟩ := List.mem_map.mp hx
    unfold nrD
    simp [PyData.depth, PyData.depthAll, depth_ints]
/-! ### walks -/
theorem set_self {α : Type} {ρ : List α} {v : Nat} {o : α} (h : ρ[v]? = some o) : ρ.set v o = ρ := by
  refine List.ext_getElem? fun i => ?_
  rw [List.getElem?_set]
  by_cases q : v = i
  · subst q
    rw [if_pos rfl, if_pos (List.getElem?_eq_some_iff.mp h).1, h]
  · rw [if_neg q]
section
variable {α : Type} {f : D → En → (Option D → En → Prop) → Prop} {ρ : En} {k : List D → En → Prop}
/-- a comprehension over typed parts that sets one place -/
theorem lcl_set (enc : α → D) (g : α → Option D) (v : Nat) {as : List α} {o : Option Vl} (hv : ρ[v]? = some o) (hl : as.length ≤ 16777216) (hs : ∀ a ∈ as, ∀ c k2, (∀ c', k2 (g a) (ρ.set v c')) → f (enc a) (ρ.set v c) k2) (hk : ∀ c, k (as.filterMap g) (ρ.set v c)) : lcl f (as.map enc) ρ [] k := by
  have go : ∀ (as : List α) (acc : List D) (c : Option Vl), (∀ a ∈ as, ∀ c k2, (∀ c', k2 (g a) (ρ.set v c')) → f (enc a) (ρ.set v c) k2) → acc.length + as.length ≤ 16777216 → (∀ c, k (acc ++ as.filterMap g) (ρ.set v c)) → lcl f (as.map enc) (ρ.set v c) acc k := by
    intro as
    induction as with
    | nil => intro acc c _ _ h; have := h c; rw [List.filterMap_nil, List.append_nil] at this; exact this
    | cons a as ih =>
      intro acc c hs hl h
      rw [List.length_cons] at hl
      refine hs a List.mem_cons_self c _ fun c' => ?_
      rw [List.filterMap_cons] at h
      cases q : g a with
      | none => rw [q] at h; exact ih acc c' (fun b hb => hs b (List.mem_cons_of_mem _ hb)) (by omega) h
      | some d =>
        rw [q] at h
        refine ⟨by rw [szv]; omega, ih _ c' (fun b hb => hs b (List.mem_cons_of_mem _ hb)) (by rw [List.length_append, List.length_singleton]; omega) fun c => ?_⟩
        rw [List.append_assoc]
        exact h c
  have := go as [] o hs (by simpa using hl) (by simpa using hk)
  rwa [set_self hv] at this
theorem lcl_map (enc g : α → D) (v : Nat) {as : List α} {o : Option Vl} (hv : ρ[v]? = some o) (hl : as.length ≤ 16777216) (hs : ∀ a ∈ as, ∀ c k2, (∀ c', k2 (some (g a)) (ρ.set v c')) → f (enc a) (ρ.set v c) k2) (hk : ∀ c, k (as.map g) (ρ.set v c)) : lcl f (as.map enc) ρ [] k :=
  lcl_set enc (fun a => some (g a)) v hv hl hs fun c => by rw [List.filterMap_eq_map']; exact hk c
theorem lcl_filter (enc g : α → D) (p : α → Bool) (v : Nat) {as : List α} {o : Option Vl} (hv : ρ[v]? = some o) (hl : as.length ≤ 16777216) (hs : ∀ a ∈ as, ∀ c k2, (∀ c', k2 (if p a = true then some (g a) else none) (ρ.set v c')) → f (enc a) (ρ.set v c) k2) (hk : ∀ c, k ((as.filter p).map g) (ρ.set v c)) : lcl f (as.map enc) ρ [] k :=
  lcl_set enc (fun a => if p a = true then some (g a) else none) v hv hl hs fun c => by
    rw [show as.filterMap (fun a => if p a = true then some (g a) else none) = (as.filter p).map g from ?_]
    · exact hk c
    · clear hk hs hl
      induction as with
      | nil => rfl
      | cons a as ih =>
        rw [List.filterMap_cons]
        by_cases q : p a = true
        · rw [if_pos q, List.filter_cons_of_pos q, List.map_cons, ih]
        · rw [if_neg q, List.filter_cons_of_neg q, ih]
/-- draws in a comprehension: every part good -/
theorem lcl_good (P : D → Prop) (enc : α → D) (v : Nat) {as : List α} {o : Option Vl} (hv : ρ[v]? = some o) (hl : as.length ≤ 16777216) (hs : ∀ a ∈ as, ∀ c k2, (∀ d c', P d → k2 (some d) (ρ.set v c')) → f (enc a) (ρ.set v c) k2) (hk : ∀ ds c, ds.length = as.length → (∀ d ∈ ds, P d) → k ds (ρ.set v c)) : lcl f (as.map enc) ρ [] k := by
  have go : ∀ (as : List α) (acc : List D) (c : Option Vl) (n : Nat), (∀ d ∈ acc, P d) → (∀ a ∈ as, ∀ c k2, (∀ d c', P d → k2 (some d) (ρ.set v c')) → f (enc a) (ρ.set v c) k2) → acc.length + as.length = n → n ≤ 16777216 → (∀ ds c, ds.length = n → (∀ d ∈ ds, P d) → k ds (ρ.set v c)) → lcl f (as.map enc) (ρ.set v c) acc k := by
    intro as
    induction as with
    | nil => intro acc c n ha _ hn _ h; exact h acc c (by simpa using hn) ha
    | cons a as ih =>
      intro acc c n ha hs hn hl h
      rw [List.length_cons] at hn
      refine hs a List.mem_cons_self c _ fun d c' hd => ⟨by rw [szv]; omega, ih _ c' n ?_ (fun b hb => hs b (List.mem_cons_of_mem _ hb)) (by rw [List.length_append, List.length_singleton]; omega) hl h⟩
      intro e he
      rcases List.mem_append.mp he with z | z
      · exact ha e z
      · rw [List.mem_singleton.mp z]; exact hd
  have := go as [] o as.length (by simp) hs (by simp) hl hk
  rwa [set_self hv] at this
end
/-- a range as typed parts -/
theorem rng0 (n : Nat) : rngL 0 (n : Int) = (List.range n).map fun i : Nat => .int (i : Int) := by
  unfold rngL
  rw [show ((n : Int) - 0).toNat = n by omega]
  exact List.map_congr_left fun i _ => by rw [Int.zero_add]
theorem rng_cons {a b : Int} (h : a < b) : rngL a b = .int a :: rngL (a + 1) b := by
  unfold rngL
  rw [show (b - a).toNat = (b - (a + 1)).toNat + 1 by omega, List.range_succ_eq_map, List.map_cons, List.map_map]
  congr 1
  · rw [show a + ((0 : Nat) : Int) = a by omega]
  · exact List.map_congr_left fun i _ => by show PyData.int (a + ((i + 1 : Nat) : Int)) = .int (a + 1 + (i : Int)); congr 1; omega
theorem rng_nil {a b : Int} (h : b ≤ a) : rngL a b = [] := by
  unfold rngL
  rw [show (b - a).toNat = 0 by omega]; rfl
/-- a loop over typed parts that folds a state -/
theorem forL_st {α σ : Type} {f : D → En → (En → Prop) → Prop} {k : En → Prop} (enc : α → D) (st : σ → En → Prop) (step : σ → α → σ) : ∀ {as : List α} {s : σ} {ρ : En}, st s ρ → (∀ a ∈ as, ∀ s ρ k', st s ρ → (∀ ρ', st (step s a) ρ' → k' ρ') → f (enc a) ρ k') → (∀ ρ', st (as.foldl step s) ρ' → k ρ') → forL f (as.map enc) ρ k
  | [], s, ρ, h0, _, he => he ρ h0
  | a :: as, s, ρ, h0, hs, he => hs a List.mem_cons_self s ρ _ h0 fun ρ' h1 => forL_st enc st step h1 (fun b hb => hs b (List.mem_cons_of_mem _ hb)) he
end DD

/-! DM2: more walks. -/
namespace DD
open PySem PySem.Spec PyProof.Rows L2 PySem.W
/-- a loop over a range: what is left stands in the invariant -/
theorem forL_rng {f : D → En → (En → Prop) → Prop} {k : En → Prop} (I : Nat → Int → En → Prop) (hs : ∀ n d ρ k', I (n + 1) d ρ → (∀ ρ', I n (d + 1) ρ' → k' ρ') → f (.int d) ρ k') (he : ∀ d ρ, I 0 d ρ → k ρ) : ∀ {n : Nat} {a b : Int} {ρ : En}, (b - a).toNat = n → I n a ρ → forL f (rngL a b) ρ k
  | 0, a, b, ρ, e, h => by
    rw [rng_nil (by omega)]
    exact he a ρ h
  | n + 1, a, b, ρ, e, h => by
    rw [rng_cons (by omega)]
    exact hs n a ρ _ h fun ρ' h' => forL_rng I hs he (by omega) h'
/-- a loop over a list: what is left stands in the invariant -/
theorem forL_left {α : Type} {f : D → En → (En → Prop) → Prop} {k : En → Prop} (enc : α → D) (I : List α → En → Prop) (hs : ∀ a as ρ k', I (a :: as) ρ → (∀ ρ', I as ρ' → k' ρ') → f (enc a) ρ k') (he : ∀ ρ, I [] ρ → k ρ) : ∀ {as : List α} {ρ : En}, I as ρ → forL f (as.map enc) ρ k
  | [], ρ, h => he ρ h
  | a :: as, ρ, h => hs a as ρ _ h fun ρ' h' => forL_left enc I hs he h'
theorem rep_flat {α : Type} (x : D) : ∀ (bs : List α), (List.replicate bs.length [x]).flatten = bs.map fun _ => x
  | [] => rfl
  | b :: bs => by rw [List.length_cons, List.replicate_succ, List.flatten_cons, rep_flat x bs]; rfl
def atD {α : Type} (h : α → D) (xs : List α) (k : Nat) : D := match xs[k]? with
  | some x => h x
  | none => .none
theorem rmap {α : Type} (h : α → D) : ∀ (xs : List α), (List.range xs.length).map (atD h xs) = xs.map h
  | [] => rfl
  | x :: xs => by
    rw [List.length_cons, List.range_succ_eq_map, List.map_cons, List.map_map, List.map_cons, ← rmap h xs]
    rfl
theorem atD_some {α : Type} {h : α → D} {xs : List α} {k : Nat} {x : α} (e : xs[k]? = some x) : atD h xs k = h x := by unfold atD; rw [e]
theorem any_map_bool {α : Type} {p : α → Bool} {xs : List α} : (xs.map fun x => PyData.bool (p x)).any PyData.truthy = xs.any p := by
  rw [List.any_map]; rfl
theorem all_map_bool {α : Type} {p : α → Bool} {xs : List α} : (xs.map fun x => PyData.bool (p x)).all PyData.truthy = xs.all p := by
  rw [List.all_map]; rfl
theorem fits_map_bool {α : Type} {p : α → Bool} {xs : List α} : ∀ y ∈ xs.map fun x => PyData.bool (p x), PyData.fits63 y := fun y h => by
  obtain ⟨b, _, rfl⟩ := List.mem_map.mp h
  exact True.intro
section
variable {f : D → En → (Option D → En → Prop) → Prop} {ρ : En} {k : List D → En → Prop}
theorem lcl_mapI (g : D → D) (v : Nat) {as : List D} {o : Option Vl} (hv : ρ[v]? = some o) (hl : as.length ≤ 16777216) (hs : ∀ a ∈ as, ∀ c k2, (∀ c', k2 (some (g a)) (ρ.set v c')) → f a (ρ.set v c) k2) (hk : ∀ c, k (as.map g) (ρ.set v c)) : lcl f as ρ [] k := by
  have := lcl_map (f := f) (k := k) id g v hv hl hs hk
  rwa [List.map_id] at this
theorem lcl_filterI (p : D → Bool) (v : Nat) {as : List D} {o : Option Vl} (hv : ρ[v]? = some o) (hl : as.length ≤ 16777216) (hs : ∀ a ∈ as, ∀ c k2, (∀ c', k2 (if p a = true then some a else none) (ρ.set v c')) → f a (ρ.set v c) k2) (hk : ∀ c, k (as.filter p) (ρ.set v c)) : lcl f as ρ [] k := by
  have := lcl_filter (f := f) (k := k) id id p v hv hl hs (by simpa using hk)
  rwa [List.map_id] at this
theorem lcl_goodI (P : D → Prop) (v : Nat) {as : List D} {o : Option Vl} (hv : ρ[v]? = some o) (hl : as.length ≤ 16777216) (hs : ∀ a ∈ as, ∀ c k2, (∀ d c', P d → k2 (some d) (ρ.set v c')) → f a (ρ.set v c) k2) (hk : ∀ ds c, ds.length = as.length → (∀ d ∈ ds, P d) → k ds (ρ.set v c)) : lcl f as ρ [] k := by
  have := lcl_good (f := f) (k := k) P id v hv hl hs hk
  rwa [List.map_id] at this
end
theorem rngT (m : Int) : rngL 0 m = (List.range m.toNat).map fun i : Nat => .int (i : Int) := by
  unfold rngL
  rw [Int.sub_zero]
  exact List.map_congr_left fun i _ => by rw [Int.zero_add]
/-- each two neighbours -/
def pairsB (r : Int → Int → Bool) : List Int → Bool
  | [] => true
  | [_] => true
  | x :: y :: l => r x y && pairsB r (y :: l)
theorem pairs_range (r : Int → Int → Bool) : ∀ (ns : List Int), ((List.range (ns.length - 1)).all fun i => r (ns.getD i 0) (ns.getD (i + 1) 0)) = pairsB r ns
  | [] => rfl
  | [_] => rfl
  | x :: y :: l => by
    rw [pairsB, ← pairs_range r (y :: l)]
    rw [show (x :: y :: l).length - 1 = (y :: l).length - 1 + 1 by simp, List.range_succ_eq_map, List.all_cons, List.all_map]
    rfl
theorem cut_from {α : Type} (xs : List α) (n : Nat) : cutL xs (some (n : Int)) none = xs.drop n := by
  unfold cutL
  rw [HT.sIx_nat, HT.sIx_none]
  by_cases h : n ≤ xs.length
  · rw [show min n xs.length = n by omega]
    exact List.take_of_length_le (by rw [List.length_drop]; omega)
  · rw [show min n xs.length = xs.length by omega, List.drop_length, List.take_nil, List.drop_of_length_le (by omega)]
theorem cut_to {α : Type} (xs : List α) (n : Nat) : cutL xs none (some (n : Int)) = xs.take n := by
  unfold cutL
  rw [HT.sIx_nat, HT.sIx_none, List.drop_zero, Nat.sub_zero]
  by_cases h : n ≤ xs.length
  · rw [show min n xs.length = n by omega]
  · rw [show min n xs.length = xs.length by omega, List.take_length, List.take_of_length_le (by omega)]
theorem cut_1 {α : Type} (xs : List α) : cutL xs (some 1) none = xs.drop 1 := cut_from xs 1
theorem cut_t1 {α : Type} (xs : List α) : cutL xs none (some 1) = xs.take 1 := cut_to xs 1
theorem cut_m1 {α : Type} (xs : List α) : cutL xs none (some (-1)) = xs.dropLast := by
  unfold cutL
  rw [HT.sIx_none, List.drop_zero, Nat.sub_zero, List.dropLast_eq_take]
  congr 1
  have := HT.clip_eq (-1) xs.length xs.length
  rw [if_pos (by omega)] at this
  omega
/-- a comprehension over typed parts: what holds of the slots -/
theorem lcl_ty {α : Type} {f : D → En → (Option D → En → Prop) → Prop} {k : List D → En → Prop} (enc : α → D) (g : α → Option D) (I : En → Prop) : ∀ {as : List α} {ρ : En} {acc : List D}, I ρ → (∀ a ∈ as, ∀ ρ k2, I ρ → (∀ ρ', I ρ' → k2 (g a) ρ') → f (enc a) ρ k2) → acc.length + as.length ≤ 16777216 → (∀ ρ, I ρ → k (acc ++ as.filterMap g) ρ) → lcl f (as.map enc) ρ acc k
  | [], ρ, acc, h0, _, _, he => by have := he ρ h0; rw [List.filterMap_nil, List.append_nil] at this; exact this
  | a :: as, ρ, acc, h0, hs, hl, he => by
    rw [List.length_cons] at hl
    refine hs a List.mem_cons_self ρ _ h0 fun ρ' h1 => ?_
    rw [List.filterMap_cons] at he
    cases q : g a with
    | none => rw [q] at he; exact lcl_ty enc g I h1 (fun b hb => hs b (List.mem_cons_of_mem _ hb)) (by omega) he
    | some d =>
      rw [q] at he
      refine ⟨by rw [szv]; omega, lcl_ty enc g I h1 (fun b hb => hs b (List.mem_cons_of_mem _ hb)) (by rw [List.length_append, List.length_singleton]; omega) fun ρ h => ?_⟩
      rw [List.append_assoc]
      exact he ρ h
theorem eqv_nilT {xs : List D} : PyData.eqv (.tuple xs) (.tuple []) = xs.isEmpty := by cases xs <;> simp [PyData.eqv, PyData.eqvAll]
theorem cmp_nilT {xs : List D} {k : Bool → Prop} : cmpD .Eq (.tuple xs) (.tuple []) k = k xs.isEmpty := by
  show (CmpOk _ _ ∧ k (PyData.eqv _ _)) = _
  rw [kand (by rw [CmpOk]; simp [PyData.depth, PyData.depthAll]), eqv_nilT]
theorem cmp_neT {xs : List D} {k : Bool → Prop} : cmpD .NotEq (.tuple xs) (.tuple []) k = k (!xs.isEmpty) := by
  show (CmpOk _ _ ∧ k (!PyData.eqv _ _)) = _
  rw [kand (by rw [CmpOk]; simp [PyData.depth, PyData.depthAll]), eqv_nilT]
theorem any_ints {α : Type} {h : α → Int} {xs : List α} : (xs.map fun x => PyData.int (h x)).any PyData.truthy = xs.any fun x => h x != 0 := by
  rw [List.any_map]; rfl
theorem fits_ints {α : Type} {h : α → Int} {xs : List α} : ∀ y ∈ xs.map fun x => PyData.int (h x), PyData.fits63 y := fun y hy => by
  obtain ⟨x, hx, rfl⟩ := List.mem_map.mp hy
  show PyData.fits63 (.int (h x))
  simp only [PyData.fits63]
/-- the first of rows, by length and then by order -/
theorem nr_0 {p : Int × List Int} {k : D → Prop} : ixD (nrD p) (.int 1) k = k (.tuple (p.2.map .int)) := propext ⟨fun ⟨_, e, q⟩ => by cases e; exact q, fun q => ⟨_, rfl, q⟩⟩
def minR (rows : List (List Int)) : D := match rows.map fun r => nrD (r.length, r) with
  | y :: ys => match minD y ys with
    | .tuple [_, d] => d
    | _ => .none
  | [] => .none
theorem min_rows {rows : List (List Int)} {k : D → Prop} (h : rows ≠ []) (q : k (minR rows)) : biD .min [.list (rows.map fun r => nrD (r.length, r))] fun d => ixD d (.int 1) k := by
  cases rows with
  | nil => exact absurd rfl h
  | cons r rows =>
    have al := allLt_nr (xs := (r :: rows).map fun r => ((r.length : Int), r))
    rw [List.map_map] at al
    refine ⟨nrD ((r.length : Int), r), rows.map fun r : List Int => nrD ((r.length : Int), r), rfl, al, ?_⟩
    unfold minR at q
    rw [List.map_cons] at q
    have m := minD_mem (nrD (r.length, r)) (rows.map fun r => nrD (r.length, r))
    obtain ⟨s, _, e⟩ : ∃ s, s ∈ r :: rows ∧ nrD (s.length, s) = minD (nrD (r.length, r)) (rows.map fun r => nrD (r.length, r)) := by
      have m2 : minD (nrD (r.length, r)) (rows.map fun r => nrD (r.length, r)) ∈ (r :: rows).map fun r => nrD (r.length, r) := m
      exact List.mem_map.mp m2
    simp only [← e] at q ⊢
    rw [nr_0]
    exact q
theorem minR_is {rows : List (List Int)} {t : List Int} (h : t ∈ rows) (h2 : ∀ r ∈ rows, r = t ∨ (t.length < r.length ∨ t.length = r.length ∧ t < r)) : minR rows = .tuple (t.map .int) := by
  cases rows with
  | nil => cases h
  | cons r rows =>
    unfold minR
    rw [List.map_cons]
    have : minD (nrD (r.length, r)) (rows.map fun r => nrD (r.length, r)) = nrD (t.length, t) := by
      refine minD_is (List.mem_map_of_mem (f := fun r => nrD ((r.length : Int), r)) h) fun x hx => ?_
      have hx : x ∈ (r :: rows).map fun r => nrD (r.length, r) := hx
      obtain ⟨s, hs, rfl⟩ := List.mem_map.mp hx
      rcases h2 s hs with rfl | e
      · exact .inl rfl
      · rw [lt_nr]
        refine .inr (decide_eq_true ?_)
        rcases e with e | ⟨e, e2⟩
        · exact .inl (by show (t.length : Int) < s.length; omega)
        · exact .inr ⟨by show (t.length : Int) = s.length; omega, e2⟩
    simp only [this]
    rfl
end DD

/-! M57: plain mathematics of bin days. -/
namespace DD
/-- strictly ascending, from above p on -/
def Asc : Int → List Int → Prop
  | _, [] => True
  | p, x :: xs => p < x ∧ Asc x xs
def ascB : List Int → Bool
  | [] => true
  | [_] => true
  | x :: y :: r => decide (x < y) && ascB (y :: r)
theorem asc_mono {p q : Int} (h : p ≤ q) : ∀ {r : List Int}, Asc q r → Asc p r
  | [], _ => True.intro
  | x :: xs, h2 => ⟨by have := h2.1; omega, h2.2⟩
theorem asc_lt : ∀ {p : Int} {r : List Int}, Asc p r → ∀ x ∈ r, p < x
  | p, x :: xs, h, y, hy => by
    rcases List.mem_cons.mp hy with rfl | z
    · exact h.1
    · have := asc_lt h.2 y z
      have := h.1
      omega
theorem ascB_iff : ∀ {x : Int} {r : List Int}, ascB (x :: r) = true ↔ Asc x r
  | x, [] => by simp [ascB, Asc]
  | x, y :: r => by
    rw [ascB, Asc, Bool.and_eq_true, ascB_iff, decide_eq_true_iff]
/-- two with the same members are one -/
theorem asc_ext : ∀ {p q : Int} {r s : List Int}, Asc p r → Asc q s → (∀ x, x ∈ r ↔ x ∈ s) → r = s
  | _, _, [], [], _, _, _ => rfl
  | _, _, [], y :: s, _, _, h => absurd ((h y).mpr List.mem_cons_self) (by simp)
  | _, _, x :: r, [], _, _, h => absurd ((h x).mp List.mem_cons_self) (by simp)
  | p, q, x :: r, y :: s, h1, h2, h => by
    have lx := asc_lt h1.2
    have ly := asc_lt h2.2
    have e : x = y := by
      rcases List.mem_cons.mp ((h x).mp List.mem_cons_self) with a | a
      · exact a
      · rcases List.mem_cons.mp ((h y).mpr List.mem_cons_self) with b | b
        · exact b.symm
        · have := ly x a
          have := lx y b
          omega
    subst e
    rw [asc_ext h1.2 h2.2 fun z => ?_]
    constructor
    · intro hz
      rcases List.mem_cons.mp ((h z).mp (List.mem_cons_of_mem _ hz)) with a | a
      · have := lx z hz; omega
      · exact a
    · intro hz
      rcases List.mem_cons.mp ((h z).mpr (List.mem_cons_of_mem _ hz)) with a | a
      · have := ly z hz; omega
      · exact a
theorem asc_of_sorted : ∀ {x : Int} {r : List Int}, List.Pairwise (· ≤ ·) (x :: r) → (x :: r).Nodup → Asc x r
  | x, [], _, _ => True.intro
  | x, y :: r, h, n => by
    rw [List.pairwise_cons] at h
    rw [List.nodup_cons] at n
    have h1 := h.1 y List.mem_cons_self
    have h2 : x ≠ y := fun e => n.1 (by rw [e]; exact List.mem_cons_self)
    exact ⟨by omega, asc_of_sorted h.2 n.2⟩
/-- the list is its own members in order exactly if it is ascending -/
theorem sset_one {ks bs : List Int} (n : bs.Nodup) (m : ∀ x, x ∈ bs ↔ x ∈ ks) (s : List.Pairwise (· ≤ ·) bs) : ks = bs ↔ ascB ks = true := by
  constructor
  · rintro rfl
    cases ks with
    | nil => rfl
    | cons x r => exact ascB_iff.mpr (asc_of_sorted s n)
  · intro h
    cases ks with
    | nil => cases bs with
      | nil => rfl
      | cons y r => exact absurd ((m y).mp List.mem_cons_self) (by simp)
    | cons x r =>
      cases bs with
      | nil => exact absurd ((m x).mpr List.mem_cons_self) (by simp)
      | cons y r2 =>
        have a1 : Asc (x - 1) (x :: r) := ⟨by omega, ascB_iff.mp h⟩
        have a2 : Asc (y - 1) (y :: r2) := ⟨by omega, asc_of_sorted s n⟩
        exact asc_ext a1 a2 fun z => (m z).symm
/-! ### gaps -/
/-- no gap above k from p over r to T -/
def chain (k p : Int) : List Int → Int → Prop
  | [], T => T - p ≤ k
  | x :: xs, T => x - p ≤ k ∧ chain k x xs T
instance chainDec (k : Int) : (p : Int) → (r : List Int) → (T : Int) → Decidable (chain k p r T)
  | p, [], T => inferInstanceAs (Decidable (T - p ≤ k))
  | p, x :: xs, T => @instDecidableAnd _ _ _ (chainDec k x xs T)
theorem cover_of_chain {k : Int} : ∀ {p : Int} {r : List Int} {T : Int}, chain k p r T → ∀ e, p < e → e ≤ T → ∃ s ∈ p :: r, s < e ∧ e ≤ s + k
  | p, [], T, h, e, h1, h2 => ⟨p, List.mem_cons_self, h1, by unfold chain at h; omega⟩
  | p, x :: xs, T, h, e, h1, h2 => by
    by_cases q : e ≤ x
    · exact ⟨p, List.mem_cons_self, h1, by have := h.1; omega⟩
    · obtain ⟨s, m, w⟩ := cover_of_chain h.2 e (by omega) h2
      exact ⟨s, List.mem_cons_of_mem _ m, w⟩
theorem chain_of_cover {k : Int} (hk : 0 ≤ k) : ∀ {p : Int} {r : List Int} {T : Int}, Asc p r → (∀ x ∈ p :: r, x ≤ T) → (∀ e, p < e → e ≤ T → ∃ s ∈ p :: r, s < e ∧ e ≤ s + k) → chain k p r T
  | p, [], T, _, hl, h => by
    unfold chain
    by_cases q : p < T
    · obtain ⟨s, m, w⟩ := h T q (Int.le_refl _)
      rw [List.mem_singleton] at m
      omega
    · omega
  | p, x :: xs, T, ha, hl, h => by
    have lx := asc_lt ha.2
    have px := ha.1
    refine ⟨?_, chain_of_cover hk ha.2 (fun y hy => hl y (List.mem_cons_of_mem _ hy)) fun e h1 h2 => ?_⟩
    · obtain ⟨s, m, w⟩ := h x ha.1 (hl x (by simp))
      rcases List.mem_cons.mp m with rfl | m
      · omega
      · rcases List.mem_cons.mp m with rfl | m
        · omega
        · have := lx s m
          omega
    · obtain ⟨s, m, w⟩ := h e (by omega) h2
      rcases List.mem_cons.mp m with rfl | m
      · exact ⟨x, List.mem_cons_self, by omega, by omega⟩
      · exact ⟨s, m, w⟩
/-- days behind one another: c since the last emptying -/
def nf (bad : Int → Bool) (mem : Int → Bool) : Nat → Int → Int → Bool
  | 0, _, _ => true
  | n + 1, d, c => if bad (c + 1) = true then false else nf bad mem n (d + 1) (if mem d = true then 0 else c + 1)
theorem nf_none {bad mem : Int → Bool} (hb : ∀ c, bad c = false) : ∀ (n : Nat) (d c : Int), nf bad mem n d c = true
  | 0, _, _ => rfl
  | n + 1, d, c => by rw [nf, hb, if_neg (by simp)]; exact nf_none hb n _ _
theorem nf_iff {k : Int} {bad mem : Int → Bool} (hb : ∀ c, 0 ≤ c → (bad c = true ↔ k < c)) : ∀ (n : Nat) (d c : Int), 0 ≤ c → (nf bad mem n d c = true ↔ ∀ e, d ≤ e → e < d + n → ∃ s, s < e ∧ e ≤ s + k ∧ (s = d - 1 - c ∨ d ≤ s ∧ mem s = true))
  | 0, d, c, _ => ⟨fun _ e h1 h2 => by omega, fun _ => rfl⟩
  | n + 1, d, c, h0 => by
    rw [nf]
    by_cases q : bad (c + 1) = true
    · rw [if_pos q]
      have := (hb _ (by omega)).mp q
      refine ⟨fun h => by simp at h, fun h => ?_⟩
      obtain ⟨s, a, b, w⟩ := h d (by omega) (by omega)
      omega
    · rw [if_neg q]
      have q2 : c + 1 ≤ k := by
        have := mt (hb (c + 1) (by omega)).mpr q
        omega
      by_cases m : mem d = true
      · rw [if_pos m, nf_iff hb n (d + 1) 0 (by omega)]
        constructor
        · intro h e h1 h2
          by_cases q : e = d
          · exact ⟨d - 1 - c, by omega, by omega, .inl rfl⟩
          · obtain ⟨s, a, b, w⟩ := h e (by omega) (by omega)
            rcases w with w | ⟨w, w2⟩
            · exact ⟨s, a, b, .inr ⟨by omega, by rw [w, show d + 1 - 1 - 0 = d by omega]; exact m⟩⟩
            · exact ⟨s, a, b, .inr ⟨by omega, w2⟩⟩
        · intro h e h1 h2
          obtain ⟨s, a, b, w⟩ := h e (by omega) (by omega)
          rcases w with w | ⟨w, w2⟩
          · exact ⟨d, by omega, by omega, .inl (by omega)⟩
          · by_cases q : s = d
            · exact ⟨s, a, b, .inl (by omega)⟩
            · exact ⟨s, a, b, .inr ⟨by omega, w2⟩⟩
      · rw [if_neg m, nf_iff hb n (d + 1) (c + 1) (by omega)]
        constructor
        · intro h e h1 h2
          by_cases q : e = d
          · exact ⟨d - 1 - c, by omega, by omega, .inl rfl⟩
          · obtain ⟨s, a, b, w⟩ := h e (by omega) (by omega)
            rcases w with w | ⟨w, w2⟩
            · exact ⟨s, a, b, .inl (by omega)⟩
            · exact ⟨s, a, b, .inr ⟨by omega, w2⟩⟩
        · intro h e h1 h2
          obtain ⟨s, a, b, w⟩ := h e (by omega) (by omega)
          rcases w with w | ⟨w, w2⟩
          · exact ⟨s, a, b, .inl (by omega)⟩
          · by_cases q : s = d
            · rw [q] at w2; exact absurd w2 m
            · exact ⟨s, a, b, .inr ⟨by omega, w2⟩⟩
/-- ascending days do exactly if no gap is above k -/
theorem nf_chain {k : Int} {bad mem : Int → Bool} (hk : 0 ≤ k) (hb : ∀ c, 0 ≤ c → (bad c = true ↔ k < c)) {r : List Int} {T : Nat} (ha : Asc 0 r) (hT : ∀ x ∈ r, x ≤ T) (hm : ∀ x, mem x = true ↔ x ∈ r) : nf bad mem T 1 0 = true ↔ chain k 0 r T := by
  rw [nf_iff hb T 1 0 (by omega)]
  constructor
  · intro h
    refine chain_of_cover hk ha ?_ fun e h1 h2 => ?_
    · intro x hx
      rcases List.mem_cons.mp hx with rfl | hx
      · omega
      · exact hT x hx
    · obtain ⟨s, a, b, w⟩ := h e (by omega) (by omega)
      rcases w with w | ⟨w, w2⟩
      · exact ⟨s, by rw [w]; exact List.mem_cons_self, a, b⟩
      · exact ⟨s, List.mem_cons_of_mem _ ((hm s).mp w2), a, b⟩
  · intro h e h1 h2
    obtain ⟨s, m, a, b⟩ := cover_of_chain h e (by omega) (by omega)
    rcases List.mem_cons.mp m with m | m
    · exact ⟨s, a, b, .inl (by omega)⟩
    · exact ⟨s, a, b, .inr ⟨by have := asc_lt ha s m; omega, (hm s).mpr m⟩⟩
/-! ### the greedy days -/
def greedy (k T : Int) : Int → Nat → List Int
  | _, 0 => []
  | p, m + 1 => max (p + 1) (T - ((m : Int) + 1) * k) :: greedy k T (max (p + 1) (T - ((m : Int) + 1) * k)) m
theorem greedy_len {k T : Int} : ∀ {p : Int} {m : Nat}, (greedy k T p m).length = m
  | p, 0 => rfl
  | p, m + 1 => by rw [greedy, List.length_cons, greedy_len]
theorem greedy_chain {k T : Int} (hk : 1 ≤ k) : ∀ {p : Int} {m : Nat}, T - p ≤ ((m : Int) + 1) * k → (p + m < T ∨ m = 0) → chain k p (greedy k T p m) T ∧ Asc p (greedy k T p m) ∧ ∀ x ∈ greedy k T p m, x < T
  | p, 0, h, _ => ⟨by show T - p ≤ k; simp at h; exact h, True.intro, by simp [greedy]⟩
  | p, m + 1, h, h2 => by
    rw [greedy]
    have e1 : ((m : Int) + 1 + 1) * k = ((m : Int) + 1) * k + k := by rw [Int.add_mul ((m : Int) + 1), Int.one_mul]
    have e2 : ((m : Int) + 1) * k = (m : Int) * k + k := by rw [Int.add_mul, Int.one_mul]
    have e3 : (m : Int) ≤ (m : Int) * k := by
      have := Int.mul_le_mul_of_nonneg_left hk (show (0 : Int) ≤ m by omega)
      rw [Int.mul_one] at this
      exact this
    rw [show ((m + 1 : Nat) : Int) = (m : Int) + 1 by omega] at h h2
    have ih := greedy_chain (T := T) hk (p := max (p + 1) (T - ((m : Int) + 1) * k)) (m := m) (by omega) (by omega)
    refine ⟨⟨by omega, ih.1⟩, ⟨by omega, ih.2.1⟩, fun x hx => ?_⟩
    rcases List.mem_cons.mp hx with rfl | hx
    · omega
    · exact ih.2.2 x hx
theorem chain_len {k T : Int} : ∀ {p : Int} {r : List Int}, chain k p r T → T - p ≤ ((r.length : Int) + 1) * k
  | p, [], h => by unfold chain at h; simp; exact h
  | p, x :: xs, h => by
    have ih := chain_len h.2
    have := h.1
    rw [List.length_cons, show ((xs.length + 1 : Nat) : Int) = (xs.length : Int) + 1 by omega]
    have e1 : ((xs.length : Int) + 1 + 1) * k = ((xs.length : Int) + 1) * k + k := by rw [Int.add_mul ((xs.length : Int) + 1), Int.one_mul]
    omega
def lexLt : List Int → List Int → Bool
  | [], [] => false
  | [], _ :: _ => true
  | _ :: _, [] => false
  | x :: xs, y :: ys => if x = y then lexLt xs ys else decide (x < y)
theorem lex_asym : ∀ {a b : List Int}, lexLt a b = true → lexLt b a = false
  | [], [], h => rfl
  | [], _ :: _, _ => rfl
  | x :: xs, y :: ys, h => by
    rw [lexLt] at h ⊢
    by_cases q : x = y
    · rw [if_pos q] at h; rw [if_pos q.symm]; exact lex_asym h
    · rw [if_neg q] at h; rw [if_neg (fun e => q e.symm)]
      have := of_decide_eq_true h
      exact decide_eq_false (by omega)
theorem greedy_least {k T : Int} : ∀ {p p2 : Int} {r : List Int}, p ≤ p2 → chain k p2 r T → Asc p2 r → greedy k T p r.length = r ∨ lexLt (greedy k T p r.length) r = true
  | p, p2, [], _, _, _ => .inl rfl
  | p, p2, x :: xs, hp, h, ha => by
    have c := chain_len h.2
    have h1 := h.1
    have a1 := ha.1
    rw [List.length_cons, greedy, lexLt]
    by_cases q : max (p + 1) (T - ((xs.length : Int) + 1) * k) = x
    · rw [if_pos q, q]
      rcases greedy_least (Int.le_refl x) h.2 ha.2 with e | e
      · exact .inl (by rw [e])
      · exact .inr e
    · rw [if_neg q]
      exact .inr (decide_eq_true (by omega))
/-- how many days are enough -/
def many (k T : Int) : Nat := (if T = 0 then 0 else (T - 1) / k).toNat
theorem many_le {k T : Int} (hk : 1 ≤ k) (hT : 0 ≤ T) : T - 0 ≤ ((many k T : Int) + 1) * k ∧ (0 + (many k T : Int) < T ∨ many k T = 0) := by
  unfold many
  by_cases q : T = 0
  · rw [if_pos q]; simp; omega
  · rw [if_neg q]
    have e := Int.mul_ediv_add_emod (T - 1) k
    have m1 := Int.emod_lt_of_pos (T - 1) (show 0 < k by omega)
    have m0 := Int.emod_nonneg (T - 1) (show k ≠ 0 by omega)
    have d0 : 0 ≤ (T - 1) / k := Int.ediv_nonneg (by omega) (by omega)
    rw [Int.toNat_of_nonneg d0, Int.add_mul, Int.one_mul, Int.mul_comm]
    have : (T - 1) / k ≤ k * ((T - 1) / k) := by
      have := Int.mul_le_mul_of_nonneg_right hk d0
      rw [Int.one_mul] at this
      exact this
    omega
theorem many_least {k T : Int} (hk : 1 ≤ k) {r : List Int} (h : chain k 0 r T) : many k T ≤ r.length := by
  have c := chain_len h
  unfold many
  by_cases q : T = 0
  · rw [if_pos q]; simp
  · rw [if_neg q]
    have : (T - 1) / k < (r.length : Int) + 1 := Int.ediv_lt_of_lt_mul (by omega) (by omega)
    omega
/-! ### all rows -/
def subsN (a : Int) : Nat → List (List Int)
  | 0 => [[]]
  | n + 1 => subsN a n ++ (subsN a n).map (· ++ [a + (n : Nat)])
theorem asc_snoc : ∀ {p : Int} {r : List Int} {x : Int}, Asc p (r ++ [x]) ↔ Asc p r ∧ p < x ∧ ∀ y ∈ r, y < x
  | p, [], x => by simp [Asc]
  | p, y :: r, x => by
    rw [List.cons_append, Asc, Asc, asc_snoc]
    constructor
    · rintro ⟨h1, h2, h3, h4⟩
      exact ⟨⟨h1, h2⟩, by omega, fun z hz => by
        rcases List.mem_cons.mp hz with rfl | hz
        · exact h3
        · exact h4 z hz⟩
    · rintro ⟨⟨h1, h2⟩, h3, h4⟩
      exact ⟨h1, h2, h4 y List.mem_cons_self, fun z hz => h4 z (List.mem_cons_of_mem _ hz)⟩
theorem snoc_cases {α : Type} (r : List α) : r = [] ∨ ∃ s x, r = s ++ [x] := by
  rcases r.eq_nil_or_concat with h | ⟨s, x, h⟩
  · exact .inl h
  · exact .inr ⟨s, x, by rw [h, List.concat_eq_append]⟩
theorem mem_subsN {a : Int} : ∀ {n : Nat} {r : List Int}, r ∈ subsN a n ↔ Asc (a - 1) r ∧ ∀ x ∈ r, x < a + n
  | 0, r => by
    rw [subsN, List.mem_singleton]
    constructor
    · rintro rfl; exact ⟨True.intro, by simp⟩
    · rintro ⟨h, h2⟩
      cases r with
      | nil => rfl
      | cons x r =>
        have := h.1
        have := h2 x List.mem_cons_self
        omega
  | n + 1, r => by
    rw [subsN, List.mem_append, List.mem_map]
    constructor
    · rintro (h | ⟨s, h, rfl⟩)
      · have := mem_subsN.mp h
        exact ⟨this.1, fun x hx => by have := this.2 x hx; omega⟩
      · have := mem_subsN.mp h
        refine ⟨asc_snoc.mpr ⟨this.1, by omega, this.2⟩, fun x hx => ?_⟩
        rcases List.mem_append.mp hx with hx | hx
        · have := this.2 x hx; omega
        · rw [List.mem_singleton] at hx; omega
    · rintro ⟨h, h2⟩
      rcases snoc_cases r with rfl | ⟨s, x, rfl⟩
      · exact .inl (mem_subsN.mpr ⟨True.intro, by simp⟩)
      · have h3 := asc_snoc.mp h
        have hx := h2 x (by simp)
        by_cases q : x = a + n
        · exact .inr ⟨s, mem_subsN.mpr ⟨h3.1, fun y hy => by have := h3.2.2 y hy; omega⟩, by rw [q]⟩
        · refine .inl (mem_subsN.mpr ⟨h, fun y hy => ?_⟩)
          rcases List.mem_append.mp hy with hy | hy
          · have := h3.2.2 y hy; omega
          · rw [List.mem_singleton] at hy; omega
theorem subsN_len {a : Int} : ∀ {n : Nat}, (subsN a n).length = 2 ^ n
  | 0 => rfl
  | n + 1 => by rw [subsN, List.length_append, List.length_map, subsN_len, Nat.pow_succ]; omega
theorem subsN_mem_len {a : Int} : ∀ {n : Nat} {r : List Int}, r ∈ subsN a n → r.length ≤ n
  | 0, r, h => by rw [subsN, List.mem_singleton] at h; rw [h]; exact Nat.le_refl _
  | n + 1, r, h => by
    rw [subsN, List.mem_append, List.mem_map] at h
    rcases h with h | ⟨s, h, rfl⟩
    · have := subsN_mem_len h; omega
    · have := subsN_mem_len h
      rw [List.length_append, List.length_singleton]; omega
/-! ### weeks -/
/-- cyclic gaps -/
def cyc (k w : Int) : List Int → Prop
  | [] => False
  | x :: xs => chain k x xs (x + w)
instance (k w : Int) : (r : List Int) → Decidable (cyc k w r)
  | [] => inferInstanceAs (Decidable False)
  | x :: xs => inferInstanceAs (Decidable (chain k x xs (x + w)))
def turned (x w : Int) (r : List Int) : List Int := [0, 1, 2, 3].flatMap fun j : Int => r.map fun y => y + j * w - x
theorem mem_turned {x w s : Int} {r : List Int} : s ∈ turned x w r ↔ ∃ y ∈ r, s = y - x ∨ s = y + w - x ∨ s = y + 2 * w - x ∨ s = y + 3 * w - x := by
  unfold turned
  simp only [List.mem_flatMap, List.mem_map, List.mem_cons, List.not_mem_nil, or_false]
  constructor
  · rintro ⟨j, hj, y, hy, rfl⟩
    refine ⟨y, hy, ?_⟩
    rcases hj with rfl | rfl | rfl | rfl <;> omega
  · rintro ⟨y, hy, h⟩
    rcases h with rfl | rfl | rfl | rfl
    · exact ⟨0, by simp, y, hy, by omega⟩
    · exact ⟨1, by simp, y, hy, by omega⟩
    · exact ⟨2, by simp, y, hy, by omega⟩
    · exact ⟨3, by simp, y, hy, by omega⟩
theorem nf_week {k : Int} {bad mem : Int → Bool} (hk : 0 ≤ k) (hb : ∀ c, 0 ≤ c → (bad c = true ↔ k < c)) {x : Int} {xs : List Int} {w : Nat} (ha : Asc (-1) (x :: xs)) (hw : ∀ y ∈ x :: xs, y < w) (hm : ∀ s, mem s = true ↔ s ∈ turned x w (x :: xs)) : nf bad mem (3 * w) 1 0 = true ↔ cyc k w (x :: xs) := by
  have hx := ha.1
  have hxw := hw x List.mem_cons_self
  have la := asc_lt ha.2
  rw [nf_iff hb (3 * w) 1 0 (by omega)]
  constructor
  · intro h
    refine chain_of_cover hk ha.2 (fun y hy => ?_) fun e h1 h2 => ?_
    · have := hw y hy; omega
    · obtain ⟨s, a, b, c⟩ := h (e - x) (by omega) (by omega)
      rcases c with c | ⟨c, c2⟩
      · exact ⟨x, List.mem_cons_self, by omega, by omega⟩
      · obtain ⟨y, hy, c3⟩ := mem_turned.mp ((hm s).mp c2)
        have hyx : x ≤ y := by
          rcases List.mem_cons.mp hy with rfl | hy
          · omega
          · have := la y hy; omega
        refine ⟨y, hy, ?_⟩
        rcases c3 with c3 | c3 | c3 | c3 <;> omega
  · intro h e h1 h2
    have key : ∀ j : Int, j = 0 ∨ j = 1 ∨ j = 2 → j * w < e → e ≤ j * w + w → ∃ s, s < e ∧ e ≤ s + k ∧ (s = 1 - 1 - 0 ∨ 1 ≤ s ∧ mem s = true) := by
      intro j hj g1 g2
      obtain ⟨s, m, a, b⟩ := cover_of_chain h (e + x - j * w) (by omega) (by omega)
      refine ⟨s + j * w - x, by omega, by omega, ?_⟩
      have hsx : x ≤ s := by
        rcases List.mem_cons.mp m with rfl | hy
        · omega
        · have := la s hy; omega
      by_cases q : s + j * w - x = 0
      · exact .inl (by omega)
      · refine .inr ⟨?_, (hm _).mpr (mem_turned.mpr ⟨s, m, ?_⟩)⟩
        · have : 0 ≤ j * w := Int.mul_nonneg (by omega) (by omega)
          omega
        · rcases hj with rfl | rfl | rfl <;> omega
    by_cases q : e ≤ w
    · exact key 0 (by omega) (by omega) (by omega)
    · by_cases q2 : e ≤ 2 * w
      · exact key 1 (by omega) (by omega) (by omega)
      · exact key 2 (by omega) (by omega) (by omega)
/-- so many days of a week are enough -/
def weekOf (k : Int) : Int → Nat → List Int
  | _, 0 => []
  | p, m + 1 => p :: weekOf k (p + k) m
theorem weekOf_len {k : Int} : ∀ {p : Int} {m : Nat}, (weekOf k p m).length = m
  | p, 0 => rfl
  | p, m + 1 => by rw [weekOf, List.length_cons, weekOf_len]
theorem weekOf_ok {k T : Int} (hk : 1 ≤ k) : ∀ {p : Int} {m : Nat}, T - p ≤ ((m : Int) + 1) * k → p + (m : Int) * k < T → chain k p (weekOf k (p + k) m) T ∧ Asc p (weekOf k (p + k) m) ∧ ∀ x ∈ weekOf k (p + k) m, x < T
  | p, 0, h, h2 => ⟨by show T - p ≤ k; simp at h; exact h, True.intro, by simp [weekOf]⟩
  | p, m + 1, h, h2 => by
    rw [weekOf]
    have e1 : ((m : Int) + 1 + 1) * k = ((m : Int) + 1) * k + k := by rw [Int.add_mul ((m : Int) + 1), Int.one_mul]
    have e2 : ((m : Int) + 1) * k = (m : Int) * k + k := by rw [Int.add_mul, Int.one_mul]
    have e3 : 0 ≤ (m : Int) * k := Int.mul_nonneg (by omega) (by omega)
    rw [show ((m + 1 : Nat) : Int) = (m : Int) + 1 by omega] at h h2
    have ih := weekOf_ok (T := T) hk (p := p + k) (m := m) (by omega) (by omega)
    refine ⟨⟨by omega, ih.1⟩, ⟨by omega, ih.2.1⟩, fun x hx => ?_⟩
    rcases List.mem_cons.mp hx with rfl | hx
    · omega
    · exact ih.2.2 x hx
/-- the fewest days of a week -/
theorem week_few {k : Int} (hk : 1 ≤ k) {w : Nat} (hw : 1 ≤ w) : ∃ r, Asc (-1) r ∧ (∀ x ∈ r, x < (w : Int)) ∧ cyc k w r ∧ (r.length : Int) = ((w : Int) + k - 1) / k := by
  have e := Int.mul_ediv_add_emod ((w : Int) - 1) k
  have m1 := Int.emod_lt_of_pos ((w : Int) - 1) (show 0 < k by omega)
  have m0 := Int.emod_nonneg ((w : Int) - 1) (show k ≠ 0 by omega)
  have d0 : 0 ≤ ((w : Int) - 1) / k := Int.ediv_nonneg (by omega) (by omega)
  have e2 : ((w : Int) + k - 1) / k = ((w : Int) - 1) / k + 1 := by
    rw [show (w : Int) + k - 1 = ((w : Int) - 1) + k by omega]
    exact Int.add_ediv_of_dvd_right (Int.dvd_refl k) |>.trans (by rw [Int.ediv_self (by omega)])
  have en : ((((w : Int) - 1) / k).toNat : Int) = ((w : Int) - 1) / k := Int.toNat_of_nonneg d0
  have ok := weekOf_ok (T := (0 : Int) + w) hk (p := 0) (m := (((w : Int) - 1) / k).toNat) (by rw [en, Int.add_mul, Int.one_mul, Int.mul_comm]; omega) (by rw [en, Int.mul_comm]; omega)
  refine ⟨0 :: weekOf k (0 + k) (((w : Int) - 1) / k).toNat, ⟨by omega, ok.2.1⟩, fun x hx => ?_, ok.1, ?_⟩
  · rcases List.mem_cons.mp hx with rfl | hx
    · omega
    · have := ok.2.2 x hx; omega
  · rw [List.length_cons, weekOf_len, e2]; omega
theorem week_least {k : Int} (hk : 1 ≤ k) {w : Nat} {r : List Int} (h : cyc k w r) : ((w : Int) + k - 1) / k ≤ r.length := by
  cases r with
  | nil => exact h.elim
  | cons x xs =>
    have c := chain_len h
    rw [List.length_cons]
    have : ((w : Int) + k - 1) / k < (xs.length : Int) + 2 := Int.ediv_lt_of_lt_mul (by omega) (by
      have : ((xs.length : Int) + 2) * k = ((xs.length : Int) + 1) * k + k := by
        rw [Int.add_mul, Int.add_mul, Int.one_mul]; omega
      omega)
    omega
/-- in a row of rows none is less than one -/
def lenLex (a b : List Int) : Bool := if (a.length : Int) = b.length then lexLt a b else decide ((a.length : Int) < b.length)
theorem lenLex_asym {a b : List Int} (h : lenLex a b = true) : lenLex b a = false := by
  unfold lenLex at h ⊢
  by_cases q : (a.length : Int) = b.length
  · rw [if_pos q] at h; rw [if_pos q.symm]; exact lex_asym h
  · rw [if_neg q] at h; rw [if_neg fun e => q e.symm]
    have := of_decide_eq_true h
    exact decide_eq_false (by omega)
/-- greedy days are the first of the fewest -/
theorem greedy_first {k : Int} (hk : 1 ≤ k) {T : Int} (hT : 0 ≤ T) {r : List Int} (h : chain k 0 r T) (ha : Asc 0 r) : greedy k T 0 (many k T) = r ∨ lenLex (greedy k T 0 (many k T)) r = true := by
  have l := many_least hk h
  unfold lenLex
  rw [greedy_len]
  by_cases q : (many k T : Int) = r.length
  · rw [if_pos q]
    have q2 : many k T = r.length := by omega
    rw [q2]
    exact greedy_least (Int.le_refl 0) h ha
  · rw [if_neg q]
    exact .inr (decide_eq_true (by omega))
end DD

namespace DD
open PySem PySem.Spec PyProof.Rows L2 PySem.W
def top (i : Nat) : Stmt := PySem.Challenge.pw_streetsswept_k57_whole_bin_days.main.body.getD i (.Pass ⟨0, 0, 0, 0⟩)
abbrev sBox : Stmt := top 19
abbrev sLoad : Stmt := top 20
abbrev sDraw : Stmt := top 21
section
variable {P : Program} {w : World} {K : PySem.W.Frag} {mg : Str → Option Value} {base : Heap}
theorem scBox : FnScope ["script"] ["script"] (defScope sBox) := ⟨rfl, rfl, rfl, by decide +kernel, rfl, by decide +kernel, by decide +kernel⟩
theorem ok_box {f : Addr} {fd : FuncData} (F : Fun K "_law_box" "_law_box" sBox f fd) (zi : mg "list" = none) (zl : mg "len" = none) : FnOk P w K mg base CX0 1 f fd ["script"] (spMk K bxOk) := by
  refine F.ok scBox (fun vs H Q E h => ?_) (fun cdv A outer s H vs Q E hr h => ?_)
  · obtain ⟨a, ns, rfl, _⟩ := h; rfl
  · obtain ⟨a, ns, rfl, hS, k⟩ := h
    refine ⟨_, pss_one (ps_ret (pe_lst (pa_cons (pe_callTy call_list_of (by rfl) zi (by decide +kernel) (pa_cons (pe_slice sl_list (pv 0) po_none (po_some pe_int)) pa_nil)) (pa_cons pe_int (pa_cons (pe_op op_add pe_int (pe_callB call_len_seq (by rfl) zl PySem.boot_len (pa_cons (pv 0) pa_nil))) pa_nil))))), ?_⟩
    refine ⟨_, rfl, _, rfl, a, _, rfl, hS, fun p hp => ?_⟩
    have s1 : Sub H (upd H p (.lst (cutV (ns.map V.int) none (some 63)))) := Sub.new hp
    refine ⟨p, _, rfl, .inl (SqL.of upd_same), fun l hl => ?_⟩
    have s2 : Sub H (upd (upd H p (.lst (cutV (ns.map V.int) none (some 63)))) l (.lst (cutV (ns.map V.int) none (some 63)))) := s1.trans (Sub.new hl)
    refine ⟨_, rfl, a, _, rfl, .inl (sql_sub s2 hS), _, _, rfl, rfl, by show 3 ≤ sizeLine; decide, fun b hb => ?_⟩
    have nl : H l = none := by
      cases q : H l with
      | none => rfl
      | some o => rw [s1 l o q] at hl; cases hl
    have nb : H b = none := by
      cases q : H b with
      | none => rfl
      | some o => rw [s2 b o q] at hb; cases hb
    have ne : b ≠ l := fun e => by rw [e, upd_same] at hb; cases hb
    refine k b l _ (s2.trans (Sub.new hb)) nb nl ⟨ne, _, _, cutL ns none (some 63), upd_same, ?_⟩
    rw [upd_ne (Ne.symm ne), upd_same]
    unfold cutV cutL
    rw [List.length_map, List.map_take, List.map_drop]
theorem scLoad : FnScope ["box", "cells", "cell", "size", "first", "second"] ["box"] (defScope sLoad) := ⟨rfl, rfl, rfl, by decide +kernel, rfl, by decide +kernel, by decide +kernel⟩
theorem ok_load {f : Addr} {fd : FuncData} (F : Fun K "_law_load" "_law_load" sLoad f fd) (zi : mg "int" = none) (zl : mg "len" = none) : FnOk P w K mg base CX0 1 f fd ["box"] spLoad := by
  refine F.ok scLoad (fun vs H Q E h => ?_) (fun cdv A outer s H vs Q E hr h => ?_)
  · obtain ⟨B, C, rfl, _⟩ := h; rfl
  · obtain ⟨B, C, rfl, bk, k⟩ := h
    have ix := fun {X : Cx} => ix_list (X := X)
    have toI := fun {X : Cx} {e : Expr} {te : TE} {p q : Pos} (he : PE X e te) (g : Gl X "int") (m : X.mg "int" = none) (h1 : starEach [e] X.env = [(false, eval e X.env)]) => pe_callTy (X := X) (p := p) (pos := q) call_int1 g m (by decide +kernel) (pa_cons he pa_nil h1) (by decide) (by decide) h1 rfl
    refine ⟨_, pss_cons (ps_set (i := 1) scLoad.nd rfl (Or.inl rfl) (pe_ix ix_list (pv 0) pe_int fun _ _ => rfl))
      (pss_cons (ps_if (pt_cmpR op_gt (pe_callB call_len_seq (by rfl) zl PySem.boot_len (pa_cons (pv 1) pa_nil)) pe_int (nomark _))
        (pss_cons (ps_set (i := 2) scLoad.nd rfl (Or.inl rfl) (toI (pe_bm PySem.F.plainAttrs_list PySem.F.slot_list_pop PySem.F.type_list_pop mt_popAt (pv 1) (pa_cons pe_int pa_nil)) (by rfl) zi rfl))
        (pss_cons (ps_set (i := 3) scLoad.nd rfl (Or.inl rfl) (pe_ifExp (pt_cmpR op_ge (pv 2) pe_int (nomark _)) (pe_op op_mul pe_int (pv 2)) (pe_op op_sub (pe_op op_mul (pe_un un_neg pe_int) (pv 2)) pe_int)))
        (pss_cons (ps_if (pt_cmpR op_ge (pv 3) pe_int (nomark _)) (pss_one (ps_ret (pv 3))) pss_nil)
        (pss_one (ps_asg (pe_op op_mod (toI (pe_op op_add (pe_op op_add (pe_op op_mul (pe_ix ix_list (pv 0) pe_int fun _ _ => rfl) pe_int) (pe_op op_mul (pv 3) pe_int)) pe_int) (by rfl) zi rfl) pe_int) (pg_sub (pv 0) pe_int set_list)))))) pss_nil)
      (pss_cons (ps_set (i := 4) scLoad.nd rfl (Or.inl rfl) (pe_op op_mod (toI (pe_op op_add (pe_op op_mul (pe_ix ix_list (pv 0) pe_int fun _ _ => rfl) pe_int) pe_int) (by rfl) zi rfl) pe_int))
      (pss_cons (ps_set (i := 5) scLoad.nd rfl (Or.inl rfl) (pe_op op_mod (toI (pe_op op_add (pe_op op_mul (pv 4) pe_int) pe_int) (by rfl) zi rfl) pe_int))
      (pss_cons (ps_asg (pe_op op_mod (toI (pe_op op_add (pe_op op_mul (pv 5) pe_int) pe_int) (by rfl) zi rfl) pe_int) (pg_sub (pv 0) pe_int set_list))
      (pss_one (ps_ret (pe_op op_add (pe_op op_add (pe_op op_mul (pv 4) pe_int) (pe_op op_mul (pv 5) pe_int)) (pe_ix ix_list (pv 0) pe_int fun _ _ => rfl)))))))), ?_⟩
    obtain ⟨ne, s0, r, ns, hB, hC⟩ := bk
    have mul : ∀ (x c : Int), (-(2 ^ 64) < c ∧ c < 2 ^ 64) → CMul x c := fun x c h => .inr h
    have mulL : ∀ (x c : Int), (-(2 ^ 64) < c ∧ c < 2 ^ 64) → CMul c x := fun x c h => .inl h
    have pz : ∀ (c : Int), 0 < c → 0 < c := fun c h => h
    have kpB : ∀ (H1 : Hp) (u : HO), (∀ b o, b ≠ B → b ≠ C → H b = some o → H1 b = some o) → ∀ b o, b ≠ B → b ≠ C → H b = some o → upd H1 B u b = some o := fun H1 u h b o n1 n2 q => by rw [upd_ne n1]; exact h b o n1 n2 q
    have kpC : ∀ (H1 : Hp) (u : HO), (∀ b o, b ≠ B → b ≠ C → H b = some o → H1 b = some o) → ∀ b o, b ≠ B → b ≠ C → H b = some o → upd H1 C u b = some o := fun H1 u h b o n1 n2 q => by rw [upd_ne n2]; exact h b o n1 n2 q
    refine ⟨_, rfl, B, _, 0, .ref C, rfl, rfl, SqL.of hB, rfl, ?_⟩
    refine ⟨_, rfl, C, _, rfl, .inl (SqL.of hC), _, _, rfl, rfl, _, rfl, ?_⟩
    refine ite2 (fun hp => ?_) (fun _ => ?_)
    · have hp : 0 < (ns.map V.int).length := by
        have := of_decide_eq_true hp
        omega
      rw [List.length_map] at hp
      cases ns with
      | nil => simp at hp
      | cons c cs =>
      -- the first cell
      refine ⟨_, rfl, Or.inl ⟨rfl, _, SqL.of hC⟩, C, _, 0, 0, .int c, rfl, rfl, hC, by decide, by decide, (ixN_seq (show ixN ((c :: cs).map V.int).length 0 = some 0 from by simp [ixN])).1, rfl, .inl ⟨_, rfl, ?_⟩⟩
      have hC1 : upd H C (.lst (((c :: cs).map V.int).eraseIdx 0)) C = some (.lst (cs.map V.int)) := upd_same
      have hB1 : upd H C (.lst (((c :: cs).map V.int).eraseIdx 0)) B = some (.lst [.ref C, .int s0, .int r]) := by rw [upd_ne ne]; exact hB
      generalize hH1 : upd H C (.lst (((c :: cs).map V.int).eraseIdx 0)) = H1 at *
      have kp1 : ∀ b o, b ≠ B → b ≠ C → H b = some o → H1 b = some o := by rw [← hH1]; exact kpC H _ fun b o _ _ q => q
      -- its size
      refine ⟨_, rfl, _, _, rfl, rfl, _, rfl, ite2 (fun _ => ?_) (fun _ => ?_)⟩
      · refine ⟨_, rfl, _, _, rfl, rfl, mulL _ _ ⟨by decide, by decide⟩, ?_⟩
        refine ⟨_, rfl, _, _, rfl, rfl, _, rfl, ite2 (fun _ => ?_) (fun _ => ?_)⟩
        · exact ⟨_, rfl, k _ _ ⟨ne, s0, r, cs, hB1, hC1⟩ kp1⟩
        refine ⟨_, rfl, B, _, 2, .int r, rfl, rfl, SqL.of hB1, rfl, _, _, rfl, rfl, mul _ _ ⟨by decide, by decide⟩, _, rfl, _, _, rfl, rfl, mul _ _ ⟨by decide, by decide⟩, _, _, rfl, rfl, _, _, rfl, rfl, .inl ⟨_, rfl, _, _, rfl, rfl, pz _ (by decide), _, rfl, B, _, 2, 2, rfl, rfl, hB1, rfl, ?_⟩⟩
        refine ⟨_, rfl, B, _, 2, .int _, rfl, rfl, SqL.of upd_same, rfl, _, _, rfl, rfl, mul _ _ ⟨by decide, by decide⟩, _, _, rfl, rfl, .inl ⟨_, rfl, _, _, rfl, rfl, pz _ (by decide), ?_⟩⟩
        refine ⟨_, rfl, _, _, rfl, rfl, mul _ _ ⟨by decide, by decide⟩, _, _, rfl, rfl, .inl ⟨_, rfl, _, _, rfl, rfl, pz _ (by decide), ?_⟩⟩
        refine ⟨_, rfl, _, _, rfl, rfl, mul _ _ ⟨by decide, by decide⟩, _, _, rfl, rfl, .inl ⟨_, rfl, _, _, rfl, rfl, pz _ (by decide), _, rfl, B, _, 2, 2, rfl, rfl, upd_same, rfl, ?_⟩⟩
        refine ⟨_, rfl, _, _, rfl, rfl, mul _ _ ⟨by decide, by decide⟩, _, rfl, _, _, rfl, rfl, mul _ _ ⟨by decide, by decide⟩, _, _, rfl, rfl, _, rfl, B, _, 2, _, rfl, rfl, SqL.of upd_same, rfl, _, _, rfl, rfl, ?_⟩
        exact k _ _ ⟨ne, s0, _, cs, upd_same, by rw [upd_ne (Ne.symm ne)]; exact (show upd H1 B _ C = some _ from (upd_ne (Ne.symm ne)).trans hC1)⟩ (kpB _ _ (kpB _ _ kp1))
      · refine ⟨_, rfl, _, rfl, _, _, rfl, rfl, mulL _ _ ⟨by decide, by decide⟩, _, _, rfl, rfl, ?_⟩
        refine ⟨_, rfl, _, _, rfl, rfl, _, rfl, ite2 (fun _ => ?_) (fun _ => ?_)⟩
        · exact ⟨_, rfl, k _ _ ⟨ne, s0, r, cs, hB1, hC1⟩ kp1⟩
        refine ⟨_, rfl, B, _, 2, .int r, rfl, rfl, SqL.of hB1, rfl, _, _, rfl, rfl, mul _ _ ⟨by decide, by decide⟩, _, rfl, _, _, rfl, rfl, mul _ _ ⟨by decide, by decide⟩, _, _, rfl, rfl, _, _, rfl, rfl, .inl ⟨_, rfl, _, _, rfl, rfl, pz _ (by decide), _, rfl, B, _, 2, 2, rfl, rfl, hB1, rfl, ?_⟩⟩
        refine ⟨_, rfl, B, _, 2, .int _, rfl, rfl, SqL.of upd_same, rfl, _, _, rfl, rfl, mul _ _ ⟨by decide, by decide⟩, _, _, rfl, rfl, .inl ⟨_, rfl, _, _, rfl, rfl, pz _ (by decide), ?_⟩⟩
        refine ⟨_, rfl, _, _, rfl, rfl, mul _ _ ⟨by decide, by decide⟩, _, _, rfl, rfl, .inl ⟨_, rfl, _, _, rfl, rfl, pz _ (by decide), ?_⟩⟩
        refine ⟨_, rfl, _, _, rfl, rfl, mul _ _ ⟨by decide, by decide⟩, _, _, rfl, rfl, .inl ⟨_, rfl, _, _, rfl, rfl, pz _ (by decide), _, rfl, B, _, 2, 2, rfl, rfl, upd_same, rfl, ?_⟩⟩
        refine ⟨_, rfl, _, _, rfl, rfl, mul _ _ ⟨by decide, by decide⟩, _, rfl, _, _, rfl, rfl, mul _ _ ⟨by decide, by decide⟩, _, _, rfl, rfl, _, rfl, B, _, 2, _, rfl, rfl, SqL.of upd_same, rfl, _, _, rfl, rfl, ?_⟩
        exact k _ _ ⟨ne, s0, _, cs, upd_same, by rw [upd_ne (Ne.symm ne)]; exact (show upd H1 B _ C = some _ from (upd_ne (Ne.symm ne)).trans hC1)⟩ (kpB _ _ (kpB _ _ kp1))
    · refine ⟨_, rfl, B, _, 2, .int r, rfl, rfl, SqL.of hB, rfl, _, _, rfl, rfl, mul _ _ ⟨by decide, by decide⟩, _, _, rfl, rfl, .inl ⟨_, rfl, _, _, rfl, rfl, pz _ (by decide), ?_⟩⟩
      refine ⟨_, rfl, _, _, rfl, rfl, mul _ _ ⟨by decide, by decide⟩, _, _, rfl, rfl, .inl ⟨_, rfl, _, _, rfl, rfl, pz _ (by decide), ?_⟩⟩
      refine ⟨_, rfl, _, _, rfl, rfl, mul _ _ ⟨by decide, by decide⟩, _, _, rfl, rfl, .inl ⟨_, rfl, _, _, rfl, rfl, pz _ (by decide), _, rfl, B, _, 2, 2, rfl, rfl, hB, rfl, ?_⟩⟩
      refine ⟨_, rfl, _, _, rfl, rfl, mul _ _ ⟨by decide, by decide⟩, _, rfl, _, _, rfl, rfl, mul _ _ ⟨by decide, by decide⟩, _, _, rfl, rfl, _, rfl, B, _, 2, _, rfl, rfl, SqL.of upd_same, rfl, _, _, rfl, rfl, ?_⟩
      exact k _ _ ⟨ne, s0, _, ns, upd_same, by rw [upd_ne (Ne.symm ne)]; exact hC⟩ (kpB _ _ (fun b o _ _ q => q))
theorem scDraw : FnScope ["box", "many", "digit"] ["box", "many"] (defScope sDraw) := ⟨rfl, rfl, rfl, by decide +kernel, rfl, by decide +kernel, by decide +kernel⟩
theorem ok_draw {f fl : Addr} {fd fdl : FuncData} (F : Fun K "_law_draw" "_law_draw" sDraw f fd) (zi : mg "int" = none) (FL : FnOk P w K mg base CX0 1 fl fdl ["box"] spLoad) (ml : mg "_law_load" = some (.ref fl)) (kl : PySem.W.keepIn K (.ref fl) = true) (bl : Binds K fdl ["box"] []) :
    FnOk P w K mg base CX0 2 f fd ["box", "many"] (spDraw bxOk) := by
  refine F.ok scDraw (fun vs H Q E h => ?_) (fun cdv A outer s H vs Q E hr h => ?_)
  · obtain ⟨B, C, n, rfl, _⟩ := h; rfl
  · obtain ⟨B, C, n, rfl, ⟨ne, s0, r, ns, hB, hC⟩, n0, n1, k⟩ := h
    have toI := fun {X : Cx} {e : Expr} {te : TE} {p q : Pos} (he : PE X e te) (g : Gl X "int") (m : X.mg "int" = none) (h1 : starEach [e] X.env = [(false, eval e X.env)]) => pe_callTy (X := X) (p := p) (pos := q) call_int1 g m (by decide +kernel) (pa_cons he pa_nil h1) (by decide) (by decide) h1 rfl
    refine ⟨_, pss_cons (ps_if (pt_cmpR op_lt (pe_ix ix_list (pv 0) pe_int fun _ _ => rfl) (pv 1) (nomark _)) (pss_one (ps_asg (pe_call (E := E0) FL hr (by rfl) ml kl bl .nil pass0 (pa_cons (pv 0) pa_nil)) (pg_sub (pv 0) pe_int set_list))) pss_nil)
      (pss_cons (ps_set (i := 2) scDraw.nd rfl (Or.inl rfl) (pe_op op_mod (toI (pe_ix ix_list (pv 0) pe_int fun _ _ => rfl) (by rfl) zi rfl) (pv 1)))
      (pss_cons (ps_asg (pe_op op_fdivW (pe_ix ix_list (pv 0) pe_int fun _ _ => rfl) (pv 1)) (pg_sub (pv 0) pe_int set_list))
      (pss_one (ps_ret (pv 2))))), ?_⟩
    have end' : ∀ (H1 : Hp) (s1 r1 : Int) (ns1 : List Int), H1 B = some (.lst [.ref C, .int s1, .int r1]) → H1 C = some (.lst (ns1.map V.int)) → (∀ b o, b ≠ B → b ≠ C → H b = some o → H1 b = some o) → Q (.int (s1 % n)) (upd H1 B (.lst [.ref C, .int (s1 / n), .int r1])) := fun H1 s1 r1 ns1 h1 h2 kp =>
      k _ _ (Int.emod_nonneg _ (by omega)) (Int.emod_lt_of_pos _ n0) ⟨ne, _, _, ns1, upd_same, by rw [upd_ne (Ne.symm ne)]; exact h2⟩ fun b o b1 b2 q => by rw [upd_ne b1]; exact kp b o b1 b2 q
    refine ⟨_, rfl, B, _, 1, .int s0, rfl, rfl, SqL.of hB, rfl, _, rfl, _, _, rfl, rfl, _, rfl, ite2 (fun _ => ?_) (fun _ => ?_)⟩
    · refine ⟨_, rfl, B, C, rfl, ⟨ne, s0, r, ns, hB, hC⟩, fun z H1 ⟨_, s1, r1, ns1, hB1, hC1⟩ kp => ?_⟩
      refine ⟨_, rfl, B, _, 1, 1, rfl, rfl, hB1, rfl, ?_⟩
      refine ⟨_, rfl, B, _, 1, .int z, rfl, rfl, SqL.of upd_same, rfl, .inl ⟨_, rfl, _, rfl, _, _, rfl, rfl, n0, ?_⟩⟩
      refine ⟨_, rfl, B, _, 1, .int z, rfl, rfl, SqL.of upd_same, rfl, _, rfl, _, _, rfl, rfl, ⟨n0, n1⟩, _, rfl, B, _, 1, 1, rfl, rfl, upd_same, rfl, _, rfl, ?_⟩
      exact end' _ z r1 ns1 upd_same ((upd_ne (Ne.symm ne)).trans hC1) fun b o b1 b2 q => by rw [upd_ne b1]; exact kp b o b1 b2 q
    · refine ⟨_, rfl, B, _, 1, .int s0, rfl, rfl, SqL.of hB, rfl, .inl ⟨_, rfl, _, rfl, _, _, rfl, rfl, n0, ?_⟩⟩
      refine ⟨_, rfl, B, _, 1, .int s0, rfl, rfl, SqL.of hB, rfl, _, rfl, _, _, rfl, rfl, ⟨n0, n1⟩, _, rfl, B, _, 1, 1, rfl, rfl, hB, rfl, _, rfl, ?_⟩
      exact end' _ s0 r ns hB hC fun b o _ _ q => q
end
abbrev f_lasts_for : Nat := 507
abbrev f_least_lasting : Nat := 519
abbrev f_fewest_bin_days : Nat := 355
abbrev f_is_ascending : Nat := 410
abbrev f_is_number : Nat := 453
abbrev f_do_week : Nat := 335
abbrev f_week_days : Nat := 707
abbrev f_is_bin_told : Nat := 413
abbrev f_are_bins_told : Nat := 204
abbrev f__law_same : Nat := 158
abbrev f__law_subsets : Nat := 169
abbrev f__law_never_full : Nat := 125
abbrev f__law_whole : Nat := 190
abbrev f__law_are_days : Nat := 4
abbrev f__law_bent : Nat := 21
abbrev f__law_turned : Nat := 183
abbrev f__law_for_ever : Nat := 65
abbrev f_do_days : Nat := 330
abbrev f_shows_days : Nat := 634
abbrev f__law_draw : Nat := 50
def b_lasts_for : Ss := (.cons (.ret (.ite (.idx (.var 0) (.int 0)) (.bin .FloorDiv (.idx (.var 0) (.int 1)) (.idx (.var 0) (.int 0))) .non)) .nil)
def n_lasts_for : List Str := ["one"]
def b_least_lasting : Ss := (.cons (.asg (.nm 1) (.lc (.call f_lasts_for (.cons (.var 2) .nil)) [2] (.nm 2) (.seq (.var 0)) (.cons (.idx (.var 2) (.int 0)) .nil))) (.cons (.ret (.ite (.var 1) (.bi .min (.cons (.var 1) .nil)) .non)) .nil))
def n_least_lasting : List Str := ["bins", "rows", "one"]
def b_fewest_bin_days : Ss := (.cons (.asg (.nm 2) (.call f_least_lasting (.cons (.var 0) .nil))) (.cons (.ifs (.or (.cons (.cmp .Is (.var 2) .non) (.cons (.cmp .Eq (.var 1) (.int 0)) .nil))) (.cons (.ret (.tup .nil)) .nil) .nil) (.cons (.par2 4 5 false true (.bin .FloorDiv (.bin .Sub (.var 1) (.int 1)) (.var 2)) (.lst (.cons (.int 0) .nil))) (.cons (.forS (.nm 3) (.rng1 (.var 4)) (.cons (.app 5 (.bi .max2 (.cons (.bin .Add (.idx (.var 5) (.neg (.int 1))) (.int 1)) (.cons (.bin .Sub (.var 1) (.bin .Mult (.bin .Sub (.var 4) (.var 3)) (.var 2))) .nil)))) .nil)) (.cons (.frz 5) (.cons (.ret (.bi .tuple (.cons (.slc (.var 5) (.some (.int 1)) .none) .nil))) .nil))))))
def n_fewest_bin_days : List Str := ["bins", "T", "k", "j", "many", "found"]
def b_is_ascending : Ss := (.cons (.ret (.bi .all (.cons (.lc (.cmp .Lt (.idx (.var 0) (.var 1)) (.idx (.var 0) (.bin .Add (.var 1) (.int 1)))) [1] (.nm 1) (.rng1 (.bin .Sub (.bi .len (.cons (.var 0) .nil)) (.int 1))) .nil) .nil))) .nil)
def n_is_ascending : List Str := ["rows", "k"]
def b_is_number : Ss := (.cons (.ret (.and (.cons (.isi (.var 0) .int) (.cons (.not (.isi (.var 0) .bool)) (.cons (.chn .LtE .LtE (.var 1) (.var 0) (.var 2)) .nil))))) .nil)
def n_is_number : List Str := ["value", "least", "most"]
def b_do_week : Ss := (.cons (.ifs (.or (.cons (.not (.isi (.var 2) .tuple)) (.cons (.not (.bi .all (.cons (.lc (.call f_is_number (.cons (.var 6) (.cons (.int 0) (.cons (.bin .Sub (.var 1) (.int 1)) .nil)))) [6] (.nm 6) (.seq (.var 2)) .nil) .nil))) (.cons (.not (.call f_is_ascending (.cons (.var 2) .nil))) .nil)))) (.cons (.ret (.bl false)) .nil) .nil) (.cons (.asg (.nm 3) (.call f_least_lasting (.cons (.var 0) .nil))) (.cons (.ifs (.or (.cons (.cmp .Eq (.var 2) (.tup .nil)) (.cons (.cmp .Is (.var 3) .non) .nil))) (.cons (.ret (.cmp .Is (.var 3) .non)) .nil) .nil) (.cons (.asg (.nm 4) (.bin .Add (.var 2) (.tup (.cons (.bin .Add (.idx (.var 2) (.int 0)) (.var 1)) .nil)))) (.cons (.ret (.bi .all (.cons (.lc (.cmp .LtE (.bin .Sub (.idx (.var 4) (.bin .Add (.var 5) (.int 1))) (.idx (.var 4) (.var 5))) (.var 3)) [5] (.nm 5) (.rng1 (.bi .len (.cons (.var 2) .nil))) .nil) .nil))) .nil)))))
def n_do_week : List Str := ["bins", "w", "value", "k", "spots", "j", "day"]
def b_week_days : Ss := (.cons (.ifs (.cmp .Is (.call f_least_lasting (.cons (.var 0) .nil)) .non) (.cons (.ret .non) .nil) .nil) (.cons (.asg (.nm 2) (.lst (.cons (.tup .nil) .nil))) (.cons (.forS (.nm 3) (.rng1 (.var 1)) (.cons (.asg (.nm 2) (.bin .Add (.var 2) (.lc (.bin .Add (.var 4) (.tup (.cons (.var 3) .nil))) [4] (.nm 4) (.seq (.var 2)) .nil))) .nil)) (.cons (.ret (.idx (.bi .min (.cons (.lc (.tup (.cons (.bi .len (.cons (.var 4) .nil)) (.cons (.var 4) .nil))) [4] (.nm 4) (.seq (.var 2)) (.cons (.call f_do_week (.cons (.var 0) (.cons (.var 1) (.cons (.var 4) .nil)))) .nil)) .nil)) (.int 1))) .nil))))
def n_week_days : List Str := ["bins", "w", "rows", "day", "row"]
def b_is_bin_told : Ss := (.cons (.ifs (.or (.cons (.not (.isi (.var 0) .tuple)) (.cons (.cmp .NotEq (.bi .len (.cons (.var 0) .nil)) (.int 2)) (.cons (.not (.call f_is_number (.cons (.idx (.var 0) (.int 0)) (.cons (.int 0) (.cons (.gl 2) .nil))))) .nil)))) (.cons (.ret (.bl false)) .nil) .nil) (.cons (.ret (.call f_is_number (.cons (.idx (.var 0) (.int 1)) (.cons (.bi .max2 (.cons (.int 1) (.cons (.idx (.var 0) (.int 0)) .nil))) (.cons (.gl 1) .nil))))) .nil))
def n_is_bin_told : List Str := ["value"]
def b_are_bins_told : Ss := (.cons (.ret (.and (.cons (.isi (.var 0) .tuple) (.cons (.chn .LtE .LtE (.int 1) (.bi .len (.cons (.var 0) .nil)) (.gl 0)) (.cons (.bi .all (.cons (.lc (.call f_is_bin_told (.cons (.var 1) .nil)) [1] (.nm 1) (.seq (.var 0)) .nil) .nil)) .nil))))) .nil)
def n_are_bins_told : List Str := ["value", "one"]
def b__law_same : Ss := (.cons (.ifs (.or (.cons (.and (.cons (.isi (.var 0) .tuple) (.cons (.isi (.var 1) .tuple) .nil))) (.cons (.and (.cons (.isi (.var 0) .list) (.cons (.isi (.var 1) .list) .nil))) .nil))) (.cons (.ret (.and (.cons (.cmp .Eq (.bi .len (.cons (.var 0) .nil)) (.bi .len (.cons (.var 1) .nil))) (.cons (.bi .all (.cons (.lc (.call f__law_same (.cons (.idx (.var 0) (.var 2)) (.cons (.idx (.var 1) (.var 2)) .nil))) [2] (.nm 2) (.rng1 (.bi .len (.cons (.var 0) .nil))) .nil) .nil)) .nil)))) .nil) .nil) (.cons (.ifs (.or (.cons (.isi (.var 0) .bool) (.cons (.isi (.var 1) .bool) .nil))) (.cons (.ret (.and (.cons (.isi (.var 0) .bool) (.cons (.isi (.var 1) .bool) (.cons (.cmp .Eq (.var 0) (.var 1)) .nil))))) .nil) .nil) (.cons (.ifs (.or (.cons (.and (.cons (.isi (.var 0) .int) (.cons (.isi (.var 1) .int) .nil))) (.cons (.and (.cons (.isi (.var 0) .str) (.cons (.isi (.var 1) .str) .nil))) .nil))) (.cons (.ret (.cmp .Eq (.var 0) (.var 1))) .nil) .nil) (.cons (.ret (.and (.cons (.cmp .Is (.var 0) .non) (.cons (.cmp .Is (.var 1) .non) .nil)))) .nil))))
def n__law_same : List Str := ["a", "b", "k"]
def b__law_subsets : Ss := (.cons (.asg (.nm 1) (.lst (.cons (.tup .nil) .nil))) (.cons (.forS (.nm 2) (.seq (.var 0)) (.cons (.asg (.nm 1) (.bin .Add (.var 1) (.lc (.bin .Add (.var 3) (.tup (.cons (.var 2) .nil))) [3] (.nm 3) (.seq (.var 1)) .nil))) .nil)) (.cons (.ret (.var 1)) .nil)))
def n__law_subsets : List Str := ["row", "rows", "part", "some"]
def b__law_never_full : Ss := (.cons (.asg (.nm 3) (.bin .Mult (.lst (.cons (.int 0) .nil)) (.bi .len (.cons (.var 0) .nil)))) (.cons (.forS (.nm 4) (.rng2 (.int 1) (.bin .Add (.var 1) (.int 1))) (.cons (.asg (.nm 3) (.lc (.bin .Add (.idx (.var 3) (.var 5)) (.idx (.idx (.var 0) (.var 5)) (.int 0))) [5] (.nm 5) (.rng1 (.bi .len (.cons (.var 0) .nil))) .nil)) (.cons (.ifs (.bi .any (.cons (.lc (.cmp .Gt (.idx (.var 3) (.var 5)) (.idx (.idx (.var 0) (.var 5)) (.int 1))) [5] (.nm 5) (.rng1 (.bi .len (.cons (.var 0) .nil))) .nil) .nil)) (.cons (.ret (.bl false)) .nil) .nil) (.cons (.asg (.nm 3) (.ite (.cmp .In (.var 4) (.var 2)) (.bin .Mult (.lst (.cons (.int 0) .nil)) (.bi .len (.cons (.var 0) .nil))) (.var 3))) .nil)))) (.cons (.ret (.bl true)) .nil)))
def n__law_never_full : List Str := ["bins", "most", "days", "levels", "day", "k"]
def b__law_whole : Ss := (.cons (.ret (.and (.cons (.isi (.var 0) .int) (.cons (.not (.isi (.var 0) .bool)) (.cons (.chn .LtE .LtE (.var 1) (.var 0) (.var 2)) .nil))))) .nil)
def n__law_whole : List Str := ["value", "low", "high"]
def b__law_are_days : Ss := (.cons (.ret (.and (.cons (.isi (.var 2) .tuple) (.cons (.bi .all (.cons (.lc (.call f__law_whole (.cons (.var 3) (.cons (.var 0) (.cons (.var 1) .nil)))) [3] (.nm 3) (.seq (.var 2)) .nil) .nil)) (.cons (.cmp .Eq (.bi .list (.cons (.var 2) .nil)) (.sset (.var 2))) .nil))))) .nil)
def n__law_are_days : List Str := ["low", "high", "value", "day"]
def b__law_bent : Ss := (.cons (.ifs (.and (.cons (.isi (.var 1) .tuple) (.cons (.cmp .Gt (.bi .len (.cons (.var 1) .nil)) (.int 0)) (.cons (.cmp .Gt (.call f__law_draw (.cons (.var 0) (.cons (.int 5) .nil))) (.int 0)) .nil)))) (.cons (.asg (.nm 3) (.call f__law_draw (.cons (.var 0) (.cons (.bi .len (.cons (.var 1) .nil)) .nil)))) (.cons (.ret (.bin .Add (.bin .Add (.slc (.var 1) .none (.some (.var 3))) (.tup (.cons (.call f__law_bent (.cons (.var 0) (.cons (.idx (.var 1) (.var 3)) .nil))) .nil))) (.slc (.var 1) (.some (.bin .Add (.var 3) (.int 1))) .none))) .nil)) .nil) (.cons (.asg (.nm 2) (.call f__law_draw (.cons (.var 0) (.cons (.int 8) .nil)))) (.cons (.ifs (.isi (.var 1) .tuple) (.cons (.ret (.idx (.lst (.cons (.bin .Add (.var 1) (.slc (.var 1) .none (.some (.int 1)))) (.cons (.slc (.var 1) (.some (.int 1)) .none) (.cons (.rev (.var 1)) (.cons (.bin .Add (.var 1) (.tup (.cons (.int 0) .nil))) (.cons (.bin .Add (.slc (.var 1) .none (.some (.int 1))) (.var 1)) (.cons (.slc (.var 1) .none (.some (.neg (.int 1)))) (.cons .non (.cons (.slc (.var 1) .none (.some (.int 1))) .nil))))))))) (.var 2))) .nil) .nil) (.cons (.ifs (.and (.cons (.isi (.var 1) .int) (.cons (.not (.isi (.var 1) .bool)) .nil))) (.cons (.ret (.idx (.lst (.cons (.bin .Add (.var 1) (.int 1)) (.cons (.bin .Sub (.var 1) (.int 1)) (.cons (.neg (.var 1)) (.cons (.cmp .Eq (.var 1) (.int 1)) (.cons .non (.cons (.bi .str (.cons (.var 1) .nil)) (.cons (.tup (.cons (.var 1) .nil)) (.cons (.bin .Add (.var 1) (.int 1001)) .nil))))))))) (.var 2))) .nil) .nil) (.cons (.ifs (.isi (.var 1) .str) (.cons (.ret (.idx (.lst (.cons (.bin .Add (.var 1) (.str "a")) (.cons (.slc (.var 1) (.some (.int 1)) .none) (.cons (.str "any") (.cons .bad (.cons (.int 0) (.cons (.str "") (.cons (.bin .Add (.var 1) (.str "z0z0z0z0")) (.cons (.tup (.cons (.var 1) .nil)) .nil))))))))) (.var 2))) .nil) .nil) (.cons (.ret (.idx (.lst (.cons (.int 0) (.cons (.int 1) (.cons .non (.cons (.bl true) (.cons (.bl false) (.cons (.str "a") (.cons (.tup .nil) (.cons (.neg (.int 1)) .nil))))))))) (.var 2))) .nil))))))
def n__law_bent : List Str := ["box", "value", "pick", "at"]
def b__law_turned : Ss := (.cons (.own 2 (.lst .nil)) (.cons (.forS (.nm 3) (.rng1 (.int 4)) (.cons (.ext 2 (.lc (.bin .Sub (.bin .Add (.var 4) (.bin .Mult (.var 3) (.var 1))) (.idx (.var 0) (.int 0))) [4] (.nm 4) (.seq (.var 0)) .nil)) .nil)) (.cons (.frz 2) (.cons (.ret (.var 2)) .nil))))
def n__law_turned : List Str := ["days", "w", "found", "week", "day"]
def b__law_for_ever : Ss := (.cons (.ifs (.cmp .Eq (.var 2) (.tup .nil)) (.cons (.ret (.not (.bi .any (.cons (.lc (.var 3) [3, 4] (.tp [3, 4]) (.seq (.var 0)) .nil) .nil)))) .nil) .nil) (.cons (.ret (.call f__law_never_full (.cons (.var 0) (.cons (.bin .Mult (.int 3) (.var 1)) (.cons (.call f__law_turned (.cons (.var 2) (.cons (.var 1) .nil))) .nil))))) .nil))
def n__law_for_ever : List Str := ["bins", "w", "days", "rate", "room"]
def b_do_days : Ss := (.cons (.ifs (.or (.cons (.not (.isi (.var 2) .tuple)) (.cons (.not (.bi .all (.cons (.lc (.call f_is_number (.cons (.var 6) (.cons (.int 1) (.cons (.var 1) .nil)))) [6] (.nm 6) (.seq (.var 2)) .nil) .nil))) (.cons (.not (.call f_is_ascending (.cons (.var 2) .nil))) .nil)))) (.cons (.ret (.bl false)) .nil) .nil) (.cons (.asg (.tp [3, 4]) (.tup (.cons (.bin .Add (.bin .Add (.tup (.cons (.int 0) .nil)) (.var 2)) (.tup (.cons (.var 1) .nil))) (.cons (.call f_least_lasting (.cons (.var 0) .nil)) .nil)))) (.cons (.ret (.or (.cons (.cmp .Is (.var 4) .non) (.cons (.bi .all (.cons (.lc (.cmp .LtE (.bin .Sub (.idx (.var 3) (.bin .Add (.var 5) (.int 1))) (.idx (.var 3) (.var 5))) (.var 4)) [5] (.nm 5) (.rng1 (.bin .Sub (.bi .len (.cons (.var 3) .nil)) (.int 1))) .nil) .nil)) .nil)))) .nil)))
def n_do_days : List Str := ["bins", "T", "value", "spots", "k", "j", "day"]
def b_shows_days : Ss := (.cons (.ifs (.or (.cons (.not (.call f_do_days (.cons (.var 0) (.cons (.var 1) (.cons (.var 2) .nil))))) (.cons (.not (.call f_is_number (.cons (.var 3) (.cons (.int 0) (.cons (.bin .Sub (.bi .len (.cons (.var 0) .nil)) (.int 1)) .nil))))) (.cons (.cmp .Is (.call f_lasts_for (.cons (.idx (.var 0) (.var 3)) .nil)) .non) .nil)))) (.cons (.ret (.bl false)) .nil) .nil) (.cons (.ret (.cmp .Eq (.bi .len (.cons (.var 2) .nil)) (.bin .FloorDiv (.bi .max2 (.cons (.int 0) (.cons (.bin .Sub (.var 1) (.int 1)) .nil))) (.call f_lasts_for (.cons (.idx (.var 0) (.var 3)) .nil))))) .nil))
def n_shows_days : List Str := ["bins", "T", "days", "k"]
def s_law_f0_0 : S := .asg (.nm 16) (.call f__law_draw (.cons (.var 1) (.cons (.int 5) .nil)))
def s_law_f0_1 : S := .app 3 (.tup (.cons (.var 16) (.cons (.bi .max2 (.cons (.int 1) (.cons (.bin .Add (.var 16) (.call f__law_draw (.cons (.var 1) (.cons (.int 9) .nil)))) .nil))) .nil)))
def s_law_f1_0 : S := .asg (.nm 19) (.lc (.var 26) [26] (.nm 26) (.rng2 (.int 1) (.int 70)) (.cons (.cmp .LtE (.bin .Mult (.var 16) (.var 26)) (.var 18)) .nil))
def s_law_f1_1 : S := .app 5 (.ite (.cmp .Gt (.var 16) (.int 0)) (.bi .max (.cons (.var 19) .nil)) .non)
def s_law_f3_0 : S := .asg (.nm 25) (.and (.cons (.var 20) (.cons (.call f__law_whole (.cons (.var 21) (.cons (.int 0) (.cons (.bin .Sub (.bi .len (.cons (.var 3) .nil)) (.int 1)) .nil)))) (.cons (.cmp .IsNot (.idx (.var 5) (.var 21)) .non) .nil))))
def s_law_f3_1 : S := .ifs (.not (.call f__law_same (.cons (.call f_shows_days (.cons (.var 3) (.cons (.var 17) (.cons (.var 12) (.cons (.var 21) .nil))))) (.cons (.ite (.var 25) (.cmp .Eq (.bi .len (.cons (.var 12) .nil)) (.bin .FloorDiv (.bi .max2 (.cons (.int 0) (.cons (.bin .Sub (.var 17) (.int 1)) .nil))) (.idx (.var 5) (.var 21)))) (.bl false)) .nil)))) (.cons (.ret (.bl false)) .nil) .nil
def s_law_f2_0 : S := .asg (.nm 20) (.and (.cons (.call f__law_are_days (.cons (.int 1) (.cons (.var 17) (.cons (.var 12) .nil)))) (.cons (.call f__law_never_full (.cons (.var 3) (.cons (.var 17) (.cons (.var 12) .nil)))) .nil)))
def s_law_f2_1 : S := .ifs (.not (.call f__law_same (.cons (.call f_do_days (.cons (.var 3) (.cons (.var 17) (.cons (.var 12) .nil)))) (.cons (.var 20) .nil)))) (.cons (.ret (.bl false)) .nil) .nil
def s_law_f2_2 : S := .forS (.nm 21) (.seq (.lst (.cons (.int 0) (.cons (.bin .Sub (.bi .len (.cons (.var 3) .nil)) (.int 1)) (.cons (.bi .len (.cons (.var 3) .nil)) (.cons (.bl true) (.cons .non (.cons (.str "0") .nil)))))))) (.cons (s_law_f3_0) (.cons (s_law_f3_1) .nil))
def s_law_f4_0 : S := .ifs (.not (.call f__law_same (.cons (.call f_do_week (.cons (.var 3) (.cons (.var 13) (.cons (.var 12) .nil)))) (.cons (.bi .any (.cons (.lc (.call f__law_same (.cons (.var 12) (.cons (.var 24) .nil))) [24] (.nm 24) (.seq (.var 14)) .nil) .nil)) .nil)))) (.cons (.ret (.bl false)) .nil) .nil
def s_law_f5_0 : S := .asg (.nm 22) (.ite (.and (.cons (.isi (.var 12) .tuple) (.cons (.cmp .NotEq (.var 12) (.tup .nil)) .nil))) (.idx (.var 12) (.int 0)) (.var 12))
def s_law_f5_1 : S := .asg (.nm 23) (.ite (.isi (.var 12) .tuple) (.bin .Add (.lst (.cons (.var 22) .nil)) (.bi .list (.cons (.var 12) .nil))) (.lst (.cons (.var 22) .nil)))
def s_law_f5_2 : S := .asg (.nm 19) (.lc (.and (.cons (.isi (.var 27) .tuple) (.cons (.cmp .Eq (.bi .len (.cons (.var 27) .nil)) (.int 2)) (.cons (.call f__law_whole (.cons (.idx (.var 27) (.int 0)) (.cons (.int 0) (.cons (.int 9) .nil)))) (.cons (.call f__law_whole (.cons (.idx (.var 27) (.int 1)) (.cons (.bi .max2 (.cons (.int 1) (.cons (.idx (.var 27) (.int 0)) .nil))) (.cons (.int 60) .nil)))) .nil))))) [27] (.nm 27) (.seq (.var 23)) .nil)
def s_law_f5_3 : S := .ifs (.not (.call f__law_same (.cons (.tup (.cons (.call f_is_bin_told (.cons (.var 22) .nil)) (.cons (.call f_are_bins_told (.cons (.var 12) .nil)) .nil))) (.cons (.tup (.cons (.idx (.var 19) (.int 0)) (.cons (.and (.cons (.isi (.var 12) .tuple) (.cons (.chn .LtE .LtE (.int 1) (.bi .len (.cons (.var 12) .nil)) (.int 10)) (.cons (.bi .all (.cons (.slc (.var 19) (.some (.int 1)) .none) .nil)) .nil)))) .nil))) .nil)))) (.cons (.ret (.bl false)) .nil) .nil
def s_law_0 : S := .own 3 (.lst .nil)
def s_law_1 : S := .forS (.nm 4) (.rng1 (.bin .Add (.int 1) (.call f__law_draw (.cons (.var 1) (.cons (.int 4) .nil))))) (.cons (s_law_f0_0) (.cons (s_law_f0_1) .nil))
def s_law_2 : S := .frz 3
def s_law_3 : S := .asg (.tp [3, 17]) (.tup (.cons (.bi .tuple (.cons (.var 3) .nil)) (.cons (.call f__law_draw (.cons (.var 1) (.cons (.int 10) .nil))) .nil)))
def s_law_4 : S := .ifs (.cmp .IsNot (.call f_are_bins_told (.cons (.var 3) .nil)) (.bl true)) (.cons (.ret (.bl false)) .nil) .nil
def s_law_5 : S := .own 5 (.lst .nil)
def s_law_6 : S := .forS (.tp [16, 18]) (.seq (.var 3)) (.cons (s_law_f1_0) (.cons (s_law_f1_1) .nil))
def s_law_7 : S := .frz 5
def s_law_8 : S := .asg (.nm 6) (.ite (.bi .any (.cons (.var 5) .nil)) (.bi .min (.cons (.lc (.var 22) [22] (.nm 22) (.seq (.var 5)) (.cons (.cmp .IsNot (.var 22) .non) .nil)) .nil)) .non)
def s_law_9 : S := .ifs (.not (.call f__law_same (.cons (.tup (.cons (.lc (.call f_lasts_for (.cons (.var 22) .nil)) [22] (.nm 22) (.seq (.var 3)) .nil) (.cons (.call f_least_lasting (.cons (.var 3) .nil)) .nil))) (.cons (.tup (.cons (.var 5) (.cons (.var 6) .nil))) .nil)))) (.cons (.ret (.bl false)) .nil) .nil
def s_law_10 : S := .asg (.nm 7) (.lc (.var 24) [24] (.nm 24) (.seq (.call f__law_subsets (.cons (.listI (.rng2 (.int 1) (.bin .Add (.var 17) (.int 1)))) .nil))) (.cons (.call f__law_never_full (.cons (.var 3) (.cons (.var 17) (.cons (.var 24) .nil)))) .nil))
def s_law_11 : S := .asg (.nm 8) (.idx (.bi .min (.cons (.lc (.tup (.cons (.bi .len (.cons (.var 24) .nil)) (.cons (.var 24) .nil))) [24] (.nm 24) (.seq (.var 7)) .nil) .nil)) (.int 1))
def s_law_12 : S := .ifs (.or (.cons (.not (.call f__law_same (.cons (.call f_fewest_bin_days (.cons (.var 3) (.cons (.var 17) .nil))) (.cons (.var 8) .nil)))) (.cons (.and (.cons (.cmp .IsNot (.var 6) .non) (.cons (.cmp .NotEq (.bi .len (.cons (.var 8) .nil)) (.bin .FloorDiv (.bi .max2 (.cons (.int 0) (.cons (.bin .Sub (.var 17) (.int 1)) .nil))) (.var 6))) .nil))) .nil))) (.cons (.ret (.bl false)) .nil) .nil
def s_law_13 : S := .asg (.nm 9) (.call f__law_draw (.cons (.var 1) (.cons (.int 61) .nil)))
def s_law_14 : S := .asg (.nm 10) (.call f_fewest_bin_days (.cons (.var 3) (.cons (.var 9) .nil)))
def s_law_15 : S := .ifs (.or (.cons (.not (.call f__law_are_days (.cons (.int 1) (.cons (.var 9) (.cons (.var 10) .nil))))) (.cons (.not (.call f__law_never_full (.cons (.var 3) (.cons (.var 9) (.cons (.var 10) .nil))))) (.cons (.and (.cons (.cmp .IsNot (.var 6) .non) (.cons (.cmp .NotEq (.bi .len (.cons (.var 10) .nil)) (.bin .FloorDiv (.bi .max2 (.cons (.int 0) (.cons (.bin .Sub (.var 9) (.int 1)) .nil))) (.var 6))) .nil))) .nil)))) (.cons (.ret (.bl false)) .nil) .nil
def s_law_16 : S := .asg (.nm 11) (.idx (.var 7) (.call f__law_draw (.cons (.var 1) (.cons (.bi .len (.cons (.var 7) .nil)) .nil))))
def s_law_17 : S := .forS (.nm 12) (.seq (.bin .Add (.lst (.cons (.var 8) (.cons (.var 11) (.cons (.rev (.var 11)) (.cons (.slc (.var 11) (.some (.int 1)) .none) (.cons (.bin .Add (.var 11) (.slc (.var 11) .none (.some (.int 1)))) (.cons (.tup (.cons (.int 0) .nil)) (.cons (.tup (.cons (.bin .Add (.var 17) (.int 1)) .nil)) (.cons (.tup (.cons (.bl true) .nil)) (.cons (.tupI (.rng2 (.int 1) (.bin .Add (.var 17) (.int 1)))) (.cons .non (.cons (.tup .nil) (.cons (.int 0) .nil))))))))))))) (.lc (.call f__law_bent (.cons (.var 1) (.cons (.var 11) .nil))) [21] (.nm 21) (.rng1 (.int 3)) .nil))) (.cons (s_law_f2_0) (.cons (s_law_f2_1) (.cons (s_law_f2_2) .nil)))
def s_law_18 : S := .asg (.nm 13) (.bin .Add (.int 1) (.call f__law_draw (.cons (.var 1) (.cons (.int 10) .nil))))
def s_law_19 : S := .asg (.nm 14) (.lc (.var 24) [24] (.nm 24) (.seq (.call f__law_subsets (.cons (.listI (.rng1 (.var 13))) .nil))) (.cons (.call f__law_for_ever (.cons (.var 3) (.cons (.var 13) (.cons (.var 24) .nil)))) .nil))
def s_law_20 : S := .asg (.nm 15) (.call f_week_days (.cons (.var 3) (.cons (.var 13) .nil)))
def s_law_21 : S := .ifs (.or (.cons (.not (.call f__law_same (.cons (.var 15) (.cons (.ite (.cmp .IsNot (.var 6) .non) (.idx (.bi .min (.cons (.lc (.tup (.cons (.bi .len (.cons (.var 24) .nil)) (.cons (.var 24) .nil))) [24] (.nm 24) (.seq (.var 14)) .nil) .nil)) (.int 1)) .non) .nil)))) (.cons (.and (.cons (.cmp .IsNot (.var 6) .non) (.cons (.cmp .NotEq (.bi .len (.cons (.var 15) .nil)) (.bin .FloorDiv (.bin .Sub (.bin .Add (.var 13) (.var 6)) (.int 1)) (.var 6))) .nil))) .nil))) (.cons (.ret (.bl false)) .nil) .nil
def s_law_22 : S := .asg (.nm 11) (.idx (.var 14) (.call f__law_draw (.cons (.var 1) (.cons (.bi .len (.cons (.var 14) .nil)) .nil))))
def s_law_23 : S := .forS (.nm 12) (.seq (.bin .Add (.lst (.cons (.var 11) (.cons (.rev (.var 11)) (.cons (.slc (.var 11) (.some (.int 1)) .none) (.cons (.bin .Add (.var 11) (.slc (.var 11) .none (.some (.int 1)))) (.cons (.tup (.cons (.var 13) .nil)) (.cons (.tup (.cons (.bl true) .nil)) (.cons (.tupI (.rng1 (.var 13))) (.cons .non (.cons (.tup .nil) (.cons (.int 0) .nil))))))))))) (.lc (.call f__law_bent (.cons (.var 1) (.cons (.var 11) .nil))) [21] (.nm 21) (.rng1 (.int 3)) .nil))) (.cons (s_law_f4_0) .nil)
def s_law_24 : S := .forS (.nm 12) (.seq (.bin .Add (.lst (.cons (.var 3) (.cons (.bin .Mult (.var 3) (.int 11)) (.cons (.tup (.cons (.tup (.cons (.int 5) (.cons (.int 4) .nil))) .nil)) (.cons (.tup (.cons (.tup (.cons (.int 0) (.cons (.int 0) .nil))) .nil)) (.cons (.tup (.cons (.tup (.cons (.int 10) (.cons (.int 20) .nil))) .nil)) (.cons (.tup (.cons (.tup (.cons (.int 1) (.cons (.int 61) .nil))) .nil)) (.cons (.tup (.cons (.tup (.cons (.bl true) (.cons (.int 3) .nil))) .nil)) (.cons (.idx (.var 3) (.int 0)) (.cons .non (.cons (.tup .nil) (.cons (.int 0) .nil)))))))))))) (.lc (.call f__law_bent (.cons (.var 1) (.cons (.var 3) .nil))) [21] (.nm 21) (.rng1 (.int 4)) .nil))) (.cons (s_law_f5_0) (.cons (s_law_f5_1) (.cons (s_law_f5_2) (.cons (s_law_f5_3) .nil))))
def b_law : Ss := (.cons (.ifs (.cmp .NotEq (.tup (.cons (.gl 4) (.cons (.gl 0) (.cons (.gl 2) (.cons (.gl 1) (.cons (.gl 3) .nil)))))) (.tup (.cons (.int 14) (.cons (.int 10) (.cons (.int 9) (.cons (.int 60) (.cons (.int 60) .nil))))))) (.cons (.ret (.bl false)) .nil) .nil) (.cons (.forS (.nm 2) (.rng1 (.int 3)) (.cons (s_law_0) (.cons (s_law_1) (.cons (s_law_2) (.cons (s_law_3) (.cons (s_law_4) (.cons (s_law_5) (.cons (s_law_6) (.cons (s_law_7) (.cons (s_law_8) (.cons (s_law_9) (.cons (s_law_10) (.cons (s_law_11) (.cons (s_law_12) (.cons (s_law_13) (.cons (s_law_14) (.cons (s_law_15) (.cons (s_law_16) (.cons (s_law_17) (.cons (s_law_18) (.cons (s_law_19) (.cons (s_law_20) (.cons (s_law_21) (.cons (s_law_22) (.cons (s_law_23) (.cons (s_law_24) .nil)))))))))))))))))))))))))) (.cons (.ret (.cmp .Eq (.call f_fewest_bin_days (.cons (.tup (.cons (.tup (.cons (.int 3) (.cons (.int 7) .nil))) .nil)) (.cons (.int 7) .nil))) (.tup (.cons (.int 1) (.cons (.int 3) (.cons (.int 5) .nil)))))) .nil)))
def n_law : List Str := ["script", "box", "turn", "bins", "step", "lasting", "least", "good", "few", "long_time", "days", "some", "value", "w", "weeks", "told", "rate", "most", "room", "rows", "does", "k", "one", "parts", "row", "due", "day", "part"]
def tabF : List (Nat × Str × Nat) := [(f_lasts_for, "lasts_for", 1), (f_least_lasting, "least_lasting", 1), (f_fewest_bin_days, "fewest_bin_days", 2), (f_is_ascending, "is_ascending", 1), (f_is_number, "is_number", 3), (f_do_week, "do_week", 3), (f_week_days, "week_days", 2), (f_is_bin_told, "is_bin_told", 1), (f_are_bins_told, "are_bins_told", 1), (f__law_same, "_law_same", 2), (f__law_subsets, "_law_subsets", 1), (f__law_never_full, "_law_never_full", 3), (f__law_whole, "_law_whole", 3), (f__law_are_days, "_law_are_days", 3), (f__law_bent, "_law_bent", 2), (f__law_turned, "_law_turned", 2), (f__law_for_ever, "_law_for_ever", 3), (f_do_days, "do_days", 3), (f_shows_days, "shows_days", 4), (f__law_draw, "_law_draw", 2)]
def tabB : List (Nat × Fn) := [(f_lasts_for, ⟨b_lasts_for, 1⟩), (f_least_lasting, ⟨b_least_lasting, 3⟩), (f_fewest_bin_days, ⟨b_fewest_bin_days, 6⟩), (f_is_ascending, ⟨b_is_ascending, 2⟩), (f_is_number, ⟨b_is_number, 3⟩), (f_do_week, ⟨b_do_week, 7⟩), (f_week_days, ⟨b_week_days, 5⟩), (f_is_bin_told, ⟨b_is_bin_told, 1⟩), (f_are_bins_told, ⟨b_are_bins_told, 2⟩), (f__law_same, ⟨b__law_same, 3⟩), (f__law_subsets, ⟨b__law_subsets, 4⟩), (f__law_never_full, ⟨b__law_never_full, 6⟩), (f__law_whole, ⟨b__law_whole, 3⟩), (f__law_are_days, ⟨b__law_are_days, 4⟩), (f__law_bent, ⟨b__law_bent, 4⟩), (f__law_turned, ⟨b__law_turned, 5⟩), (f__law_for_ever, ⟨b__law_for_ever, 5⟩), (f_do_days, ⟨b_do_days, 7⟩), (f_shows_days, ⟨b_shows_days, 4⟩)]
def tab : Tab := ⟨tabF, ["MOST_BINS", "MOST_ROOM", "MOST_RATE", "MOST_TIME", "LONGEST_WEEK"], ["len", "int", "str", "all", "any", "min", "max", "sorted", "list", "tuple", "bool", "isinstance", "range", "set"]⟩
def cstL : List D := [(.int 10), (.int 60), (.int 9), (.int 60), (.int 14)]
def prog : Pg := ⟨fun f => tabB.lookup f, fun f as kd => f = f__law_draw ∧ pDraw as kd, 1, fun i => cstL[i]?⟩
local macro_rules | `(tactic| trivial) => `(tactic| try simp only [↓e_var, ↓e_gl, ↓e_int, ↓e_str, ↓e_bl, ↓e_non, ↓e_tup, ↓e_lst, ↓e_bin, ↓e_neg, ↓e_not, ↓e_and1, ↓e_and2, ↓e_or1, ↓e_or2, ↓e_cmp, ↓e_chn, ↓e_ite, ↓e_idx, ↓e_slc, ↓e_rev, ↓e_call, ↓e_bi, ↓e_isi, ↓e_pop0, ↓e_popA, ↓e_lc, ↓es_nil, ↓es_cons, ↓eo_none, ↓eo_some, ↓ec_nil, ↓ec_cons, ↓bor_d, ↓bor_o, ↓cap_d, ↓ca_nil, ↓ca_cons, ↓ba_nil, ↓ba_cons, ↓aa_nil, ↓aa_box, ↓aa_d, ↓aa_o, ↓b_add, ↓b_sub, ↓b_mul, ↓b_div, ↓b_mod, ↓b_pow, ↓b_shl, ↓b_cat, ↓b_catL, ↓b_catT, ↓b_repL, ↓sl_d, ↓sl_own, ↓sl_box, ↓so_own, ↓sL_own, ↓sc_some, ↓t_bool, ↓t_int, ↓t_non, ↓t_str, ↓t_list, ↓t_tuple, ↓c_lt_i, ↓c_gt_i, ↓c_le_i, ↓c_ge_i, ↓c_eq_i, ↓c_ne_i, ↓c_eq_s, ↓c_ne_s, ↓c_eq_b, ↓c_ne_b, ↓c_lt_s, ↓c_is, ↓c_isn, ↓c_in, ↓c_nin, ↓i_nn, ↓i_bb, ↓i_in, ↓i_sn, ↓i_ln, ↓i_tn, ↓i_bn, ↓n_list, ↓n_tuple, ↓x_list, ↓x_tup, ↓at_lit, ↓s_list, ↓s_tuple, ↓r_list, ↓r_tuple, ↓ex_int, ↓ex_lst, ↓bl_list, ↓bl_tuple, ↓bl_str, ↓b_abs, ↓b_int, ↓b_str, ↓b_sum, ↓b_list, ↓b_listT, ↓b_tuple, ↓b_tupleT, ↓b_min2, ↓b_max2, ↓ss_nil, ↓ss_cons, ↓x_asg, ↓x_own, ↓x_frz, ↓sF_own, ↓sF_d, ↓sI_int, ↓x_par2, ↓x_augA, ↓x_augS, ↓x_app, ↓x_ext, ↓x_setI, ↓x_drop, ↓x_ifs, ↓x_for, ↓x_ret, ↓x_retN, ↓x_brk, ↓x_cnt, ↓x_pass, ↓tg_nm, ↓sR_some, ↓tg_tp, ↓sa_nil, ↓sa_cons, ↓i_seq, ↓q_list, ↓q_tuple, ↓q_str, ↓i_rng1, ↓i_rng2, ↓i_rng3, ↓i_enum, ↓i_zip, ↓en_list, ↓zp_list, ↓zp_tuple, ↓e_listI, ↓e_tupI, ↓e_lc2, ↓fr_listI, ↓fr_lc2, ↓e_sset, ↓fr_sset, ↓sset_list, ↓sset_tuple, ↓sk_f, ↓sk_t, ↓sv_f, ↓sv_t, ↓io_d, ↓io_o, ↓io_b, ↓ctx_call, ↓ctx_cst, ↓is_none_int, ↓is_none_bool, ↓is_none_str, ↓is_none_tuple, ↓is_none_list, ↓is_bool_int, ↓is_bool_bool, ↓is_bool_str, ↓is_bool_tuple, ↓is_bool_list, ↓is_int_int, ↓is_int_bool, ↓is_int_str, ↓is_int_tuple, ↓is_int_list, ↓is_str_int, ↓is_str_bool, ↓is_str_str, ↓is_str_tuple, ↓is_str_list, ↓is_list_int, ↓is_list_bool, ↓is_list_str, ↓is_list_tuple, ↓is_list_list, ↓is_tuple_int, ↓is_tuple_bool, ↓is_tuple_str, ↓is_tuple_tuple, ↓is_tuple_list, ↓is_dict_int, ↓is_dict_bool, ↓is_dict_str, ↓is_dict_tuple, ↓is_dict_list, ↓fa_n, ↓fa_b, ↓fa_i, ↓fa_s, ↓fr_lst, ↓fr_bin, ↓fr_slc, ↓fr_lc, ↓fr_sorted, ↓fr_list, ↓ok_some, ↓ok_none, ↓lcl_nil, ↓lcl_cons, ↓wi_nil, ↓wi_cons, ↓bk_nil, ↓bk_cons, ↓kp_d, ↓kp_n, ↓kp_o, ↓kp_b, ↓b_allD, ↓b_anyD, ↓sqa_list, ↓sqa_tuple, ↓tr_bool, ↓ex_some, ↓bo_nil, ↓bo_cons, List.getElem?_cons_zero, List.getElem?_cons_succ, List.set_cons_zero, List.set_cons_succ, entry, List.map_cons, List.map_nil, argV, List.length_cons, List.length_nil, List.replicate_zero, List.replicate_succ, Nat.reduceAdd, Nat.reduceSub, List.cons_append, List.nil_append, List.append_nil, retE, List.any_cons, List.any_nil, Bool.or_false, Bool.false_or, true_or, true_and, and_true, if_true, if_false, Bool.false_eq_true, reduceIte, Bool.not_true, Bool.not_false, Option.map_some, Option.getD_some, Option.getD_none, List.all_cons, List.all_nil, Bool.and_true, Bool.true_and, id_eq, decide_true, decide_false, or_true, eq_self, Int.cast_ofNat_Int, Int.reduceEq, Int.reduceLT, Int.reduceLE, Int.reduceNeg, ge_iff_le, szv, Nat.reduceLT, Nat.reduceLeDiff, Bool.false_and, Bool.and_false, Bool.and_self])
/-! ### _law_same -/
mutual
def sameD : D → D → Bool
  | .tuple xs, .tuple ys => decide (xs.length = ys.length) && sameL xs ys
  | .list xs, .list ys => decide (xs.length = ys.length) && sameL xs ys
  | .bool a, .bool b => decide (a = b)
  | .int a, .int b => decide (a = b)
  | .str a, .str b => decide (a = b)
  | .none, .none => true
  | _, _ => false
def sameL : List D → List D → Bool
  | x :: xs, y :: ys => sameD x y && sameL xs ys
  | _, _ => true
end
mutual
/-- no dict, no long list; nested at most n deep -/
def fitD : Nat → D → Prop
  | n + 1, .tuple xs => xs.length ≤ 100000 ∧ fitL n xs
  | n + 1, .list xs => xs.length ≤ 100000 ∧ fitL n xs
  | 0, .tuple _ => False
  | 0, .list _ => False
  | _, .dict _ => False
  | _, _ => True
def fitL : Nat → List D → Prop
  | _, [] => True
  | n, x :: xs => fitD n x ∧ fitL n xs
end
theorem fitL_at : ∀ {n : Nat} {xs : List D} {i : Nat} {x : D}, fitL n xs → xs[i]? = some x → fitD n x
  | n, y :: ys, 0, x, h, q => by cases q; simp only [fitL] at h; exact h.1
  | n, y :: ys, i + 1, x, h, q => by simp only [fitL] at h; exact fitL_at (i := i) h.2 q
  | n, [], _, _, _, q => by cases q
def at2 (xs ys : List D) (i : Nat) : Bool := match xs[i]?, ys[i]? with
  | some x, some y => sameD x y
  | _, _ => true
theorem sameL_range : ∀ (xs ys : List D), xs.length = ys.length → ((List.range xs.length).map (at2 xs ys)).all id = sameL xs ys
  | [], [], _ => by simp [sameL]
  | x :: xs, y :: ys, h => by
    have ih := sameL_range xs ys (by simpa using h)
    rw [List.length_cons, List.range_succ_eq_map, List.map_cons, List.map_map, List.all_cons, sameL, ← ih]
    rfl
  | [], _ :: _, h => by cases h
  | _ :: _, [], h => by cases h
section
variable {G : Pg} {kd : D → Prop}
theorem rng_map {n : Nat} (g : Nat → Bool) : (rngL 0 (n : Int)).filterMap (fun x => match x with | .int i => some (PyData.bool (g i.toNat)) | _ => none) = ((List.range n).map g).map .bool := by
  unfold rngL
  rw [List.filterMap_map, List.map_map, ← List.filterMap_eq_map]
  rw [show ((n : Int) - 0).toNat = n by omega]
  congr 1
  funext i
  show some (PyData.bool (g (0 + (i : Int)).toNat)) = some (PyData.bool (g i))
  rw [show (0 + (i : Int)).toNat = i by omega]
theorem same_tuple (h : G.fns f__law_same = some ⟨b__law_same, 3⟩) {n : Nat} {xs ys : List D} (hl : xs.length ≤ 100000) (hl2 : ys.length ≤ 100000)
    (ih : ∀ (i : Nat) (x y : D) (kd : D → Prop), xs[i]? = some x → ys[i]? = some y → kd (.bool (sameD x y)) → callN G n f__law_same [.d x, .d y] kd) (q : kd (.bool (sameD (.tuple xs) (.tuple ys)))) : callN G (n + 1) f__law_same [.d (.tuple xs), .d (.tuple ys)] kd := by
  rw [callN_fn h]
  unfold b__law_same
  rw [sameD] at q
  trivial
  by_cases hlen : xs.length = ys.length
  · rw [decide_eq_true hlen, Bool.true_and] at q
    rw [decide_eq_true (show (xs.length : Int) = (ys.length : Int) by omega)]
    trivial
    refine ⟨⟨by omega, by omega⟩, lcl_inv (fun x => match x with | .int i => some (PyData.bool (at2 xs ys i.toNat)) | _ => none) (fun ρ => ∃ c, ρ = [some (.d (.tuple xs)), some (.d (.tuple ys)), c]) ⟨_, rfl⟩ ?_ ?_ ?_⟩
    · rintro x hx ρ k2 ⟨c, rfl⟩ hk
      obtain ⟨i, hi, rfl⟩ : ∃ i, i < xs.length ∧ x = .int (i : Int) := by
        unfold rngL at hx
        obtain ⟨i, hi, rfl⟩ := List.mem_map.mp hx
        have := List.mem_range.mp hi
        exact ⟨i, by omega, by simp⟩
      trivial
      rw [at_nat, at_nat]
      have h1 := List.getElem?_eq_getElem hi
      have h2 := List.getElem?_eq_getElem (show i < ys.length by omega)
      rw [h1, h2]
      trivial
      refine ih i _ _ _ h1 h2 ?_
      have := hk _ ⟨some (.d (.int (i : Int))), rfl⟩
      simp only [Int.toNat_natCast, at2, h1, h2] at this
      exact this
    · unfold rngL
      rw [List.length_nil, List.length_map, List.length_range]
      show _ ≤ 16777216
      omega
    · rintro ρ ⟨c, rfl⟩
      rw [List.nil_append, rng_map]
      rw [all_bools, sameL_range xs ys hlen]
      exact ⟨fits_bools, q⟩
  · rw [decide_eq_false hlen, Bool.false_and] at q
    rw [decide_eq_false (show ¬ (xs.length : Int) = (ys.length : Int) by omega)]
    trivial
    exact q
theorem same_list (h : G.fns f__law_same = some ⟨b__law_same, 3⟩) {n : Nat} {xs ys : List D} (hl : xs.length ≤ 100000) (hl2 : ys.length ≤ 100000)
    (ih : ∀ (i : Nat) (x y : D) (kd : D → Prop), xs[i]? = some x → ys[i]? = some y → kd (.bool (sameD x y)) → callN G n f__law_same [.d x, .d y] kd) (q : kd (.bool (sameD (.list xs) (.list ys)))) : callN G (n + 1) f__law_same [.d (.list xs), .d (.list ys)] kd := by
  rw [callN_fn h]
  unfold b__law_same
  rw [sameD] at q
  trivial
  by_cases hlen : xs.length = ys.length
  · rw [decide_eq_true hlen, Bool.true_and] at q
    rw [decide_eq_true (show (xs.length : Int) = (ys.length : Int) by omega)]
    trivial
    refine ⟨⟨by omega, by omega⟩, lcl_inv (fun x => match x with | .int i => some (PyData.bool (at2 xs ys i.toNat)) | _ => none) (fun ρ => ∃ c, ρ = [some (.d (.list xs)), some (.d (.list ys)), c]) ⟨_, rfl⟩ ?_ ?_ ?_⟩
    · rintro x hx ρ k2 ⟨c, rfl⟩ hk
      obtain ⟨i, hi, rfl⟩ : ∃ i, i < xs.length ∧ x = .int (i : Int) := by
        unfold rngL at hx
        obtain ⟨i, hi, rfl⟩ := List.mem_map.mp hx
        have := List.mem_range.mp hi
        exact ⟨i, by omega, by simp⟩
      trivial
      rw [at_nat, at_nat]
      have h1 := List.getElem?_eq_getElem hi
      have h2 := List.getElem?_eq_getElem (show i < ys.length by omega)
      rw [h1, h2]
      trivial
      refine ih i _ _ _ h1 h2 ?_
      have := hk _ ⟨some (.d (.int (i : Int))), rfl⟩
      simp only [Int.toNat_natCast, at2, h1, h2] at this
      exact this
    · unfold rngL
      rw [List.length_nil, List.length_map, List.length_range]
      show _ ≤ 16777216
      omega
    · rintro ρ ⟨c, rfl⟩
      rw [List.nil_append, rng_map]
      rw [all_bools, sameL_range xs ys hlen]
      exact ⟨fits_bools, q⟩
  · rw [decide_eq_false hlen, Bool.false_and] at q
    rw [decide_eq_false (show ¬ (xs.length : Int) = (ys.length : Int) by omega)]
    trivial
    exact q
theorem ok_law_same (h : G.fns f__law_same = some ⟨b__law_same, 3⟩) : ∀ (n m : Nat) (a b : D) (kd : D → Prop), fitD n a → fitD n b → kd (.bool (sameD a b)) → callN G (m + n + 1) f__law_same [.d a, .d b] kd
  | n, m, a, b, kd, ha, hb, q => by
    by_cases ht : ∃ xs ys, (a = .tuple xs ∧ b = .tuple ys) ∨ (a = .list xs ∧ b = .list ys)
    · obtain ⟨xs, ys, ht⟩ := ht
      cases n with
      | zero => rcases ht with ⟨rfl, rfl⟩ | ⟨rfl, rfl⟩ <;> simp only [fitD] at ha
      | succ n =>
        rcases ht with ⟨rfl, rfl⟩ | ⟨rfl, rfl⟩
        · simp only [fitD] at ha hb
          exact same_tuple h ha.1 hb.1 (fun i x y kd e1 e2 q => ok_law_same h n m x y kd (fitL_at ha.2 e1) (fitL_at hb.2 e2) q) q
        · simp only [fitD] at ha hb
          exact same_list h ha.1 hb.1 (fun i x y kd e1 e2 q => ok_law_same h n m x y kd (fitL_at ha.2 e1) (fitL_at hb.2 e2) q) q
    · rw [callN_fn h]
      unfold b__law_same
      clear h
      cases a <;> first | (cases n <;> simp only [fitD] at ha; done) | skip
      all_goals cases b <;> first | exact absurd ⟨_, _, .inl ⟨rfl, rfl⟩⟩ ht | exact absurd ⟨_, _, .inr ⟨rfl, rfl⟩⟩ ht | (cases n <;> simp only [fitD] at hb; done) | (clear ht ha hb; simp only [sameD] at q; trivial; exact q) | skip
end

/-! ### more of _law_same -/
theorem sameL_refl {n : Nat} (ih : ∀ d, fitD n d → sameD d d = true) : ∀ {xs : List D}, fitL n xs → sameL xs xs = true
  | [], _ => by rw [sameL]; intro a b c d h; cases h
  | x :: xs, h => by
    simp only [fitL] at h
    rw [sameL, ih x h.1, sameL_refl ih h.2]; rfl
theorem sameD_refl : ∀ (n : Nat) (d : D), fitD n d → sameD d d = true
  | n, d, h => by
    cases d with
    | tuple xs =>
      cases n with
      | zero => simp only [fitD] at h
      | succ n =>
        simp only [fitD] at h
        rw [sameD, sameL_refl (sameD_refl n) h.2]; simp
    | list xs =>
      cases n with
      | zero => simp only [fitD] at h
      | succ n =>
        simp only [fitD] at h
        rw [sameD, sameL_refl (sameD_refl n) h.2]; simp
    | dict xs => cases n <;> simp only [fitD] at h
    | _ => simp [sameD]
theorem fitD_up : ∀ (n : Nat) (d : D), fitD n d → fitD (n + 1) d
  | n, d, h => by
    cases d with
    | tuple xs =>
      cases n with
      | zero => simp only [fitD] at h
      | succ n =>
        simp only [fitD] at h ⊢
        refine ⟨h.1, ?_⟩
        have h2 := h.2
        clear h
        induction xs with
        | nil => simp only [fitL]
        | cons x xs ih =>
          simp only [fitL] at h2 ⊢
          exact ⟨fitD_up n x h2.1, ih h2.2⟩
    | list xs =>
      cases n with
      | zero => simp only [fitD] at h
      | succ n =>
        simp only [fitD] at h ⊢
        refine ⟨h.1, ?_⟩
        have h2 := h.2
        clear h
        induction xs with
        | nil => simp only [fitL]
        | cons x xs ih =>
          simp only [fitL] at h2 ⊢
          exact ⟨fitD_up n x h2.1, ih h2.2⟩
    | dict xs => cases n <;> simp only [fitD] at h
    | _ => simp only [fitD]
theorem fitL_all {n : Nat} : ∀ {xs : List D}, (∀ x ∈ xs, fitD n x) ↔ fitL n xs
  | [] => by simp [fitL]
  | x :: xs => by
    rw [fitL, ← fitL_all]
    simp
theorem sameL_ints : ∀ {r : List Int} {xs : List D}, xs.length = r.length → (sameL xs (r.map .int) = true ↔ xs = r.map .int)
  | [], [], _ => by simp [sameL]
  | n :: r, x :: xs, h => by
    rw [List.map_cons, sameL, Bool.and_eq_true, sameL_ints (by simpa using h)]
    cases x <;> simp [sameD]
  | [], _ :: _, h => by cases h
  | _ :: _, [], h => by cases h
theorem same_tints {r : List Int} {v : D} : sameD v (.tuple (r.map .int)) = true ↔ v = .tuple (r.map .int) := by
  cases v with
  | tuple xs =>
    rw [sameD, Bool.and_eq_true, decide_eq_true_eq]
    constructor
    · rintro ⟨h, h2⟩
      rw [(sameL_ints (by simpa using h)).mp h2]
    · intro h
      cases h
      exact ⟨rfl, (sameL_ints (by simp)).mpr rfl⟩
  | _ => simp [sameD]
theorem fit_ints {n : Nat} {r : List Int} : fitL n (r.map .int) := fitL_all.mp fun x hx => by
  obtain ⟨a, _, rfl⟩ := List.mem_map.mp hx
  cases n <;> simp only [fitD]
theorem fit_tints {n : Nat} {r : List Int} (h : r.length ≤ 100000) : fitD (n + 1) (.tuple (r.map .int)) := by
  simp only [fitD]
  exact ⟨by simpa using h, fit_ints⟩
/-- two that are the same -/
theorem same_eq {G : Pg} {kd : D → Prop} (h : G.fns f__law_same = some ⟨b__law_same, 3⟩) {n m : Nat} {a b : D} (e : a = b) (ha : fitD n a) (q : kd (.bool true)) : callN G (m + n + 1) f__law_same [.d a, .d b] kd := by
  subst e
  refine ok_law_same h n m a a kd ha ha ?_
  rw [sameD_refl n a ha]
  exact q

/-! ### bins -/
def bnD (b : Int × Int) : D := .tuple [.int b.1, .int b.2]
theorem bn_eq {r m : Int} : bnD (r, m) = .tuple [.int r, .int m] := rfl
def okBin (b : Int × Int) : Prop := 0 ≤ b.1 ∧ b.1 ≤ 4 ∧ 1 ≤ b.2 ∧ b.1 ≤ b.2 ∧ b.2 ≤ 12
def lasts (b : Int × Int) : Option Int := if b.1 = 0 then none else some (b.2 / b.1)
def optD : Option Int → D
  | none => .none
  | some n => .int n
def lows (bs : List (Int × Int)) : List Int := (bs.filter fun b => b.1 != 0).map fun b => b.2 / b.1
def leastL : List Int → Option Int
  | [] => none
  | x :: xs => some (xs.foldl min x)
def least (bs : List (Int × Int)) : Option Int := leastL (lows bs)
theorem foldl_min_mem : ∀ (xs : List Int) (x : Int), xs.foldl min x ∈ x :: xs
  | [], x => by simp
  | y :: ys, x => by
    rw [List.foldl_cons]
    have := foldl_min_mem ys (min x y)
    rcases List.mem_cons.mp this with e | e
    · rw [e]
      by_cases q : x ≤ y
      · rw [show min x y = x by omega]; simp
      · rw [show min x y = y by omega]; simp
    · exact List.mem_cons_of_mem _ (List.mem_cons_of_mem _ e)
theorem foldl_min_le : ∀ (xs : List Int) (x : Int), ∀ y ∈ x :: xs, xs.foldl min x ≤ y
  | [], x, y, h => by rw [List.mem_singleton.mp h]; exact Int.le_refl _
  | z :: zs, x, y, h => by
    rw [List.foldl_cons]
    have ih := foldl_min_le zs (min x z)
    have i0 := ih _ List.mem_cons_self
    rcases List.mem_cons.mp h with rfl | h
    · omega
    · rcases List.mem_cons.mp h with rfl | h
      · omega
      · exact ih y (List.mem_cons_of_mem _ h)
section
variable {G : Pg} {kd : D → Prop}
theorem b_min_ints {xs : List Int} {x : Int} (q : kd (.int (xs.foldl min x))) : biD .min [.list ((x :: xs).map .int)] kd :=
  ⟨.int x, xs.map .int, rfl, allLt_ints (xs := x :: xs), by rw [minD_ints]; exact q⟩
theorem ok_lasts_for (h : G.fns f_lasts_for = some ⟨b_lasts_for, 1⟩) {n : Nat} (b : Int × Int) (hb : okBin b) (q : kd (optD (lasts b))) : callN G (n + 1) f_lasts_for [.d (bnD b)] kd := by
  obtain ⟨r, m⟩ := b
  unfold okBin at hb
  rw [callN_fn h]
  unfold b_lasts_for bnD
  unfold lasts at q
  trivial
  by_cases hr : r = 0
  · rw [if_pos hr] at q
    rw [if_neg (by simp [hr])]
    exact q
  · rw [if_neg hr] at q
    rw [if_pos (by simp [hr])]
    exact ⟨divW (by omega) (by omega), q⟩
theorem ok_least (h1 : G.fns f_lasts_for = some ⟨b_lasts_for, 1⟩) (h : G.fns f_least_lasting = some ⟨b_least_lasting, 3⟩) {n : Nat} (bs : List (Int × Int)) (hb : ∀ b ∈ bs, okBin b) (hl : bs.length ≤ 100) (q : kd (optD (least bs))) : callN G (n + 2) f_least_lasting [.d (.tuple (bs.map bnD))] kd := by
  rw [callN_fn h]
  unfold b_least_lasting
  trivial
  refine lcl_filter bnD (fun b => .int (b.2 / b.1)) (fun b => b.1 != 0) 2 rfl (by omega) (fun b hb' c k2 hk => ?_) (fun c => ?_)
  · obtain ⟨r, m⟩ := b
    rw [bn_eq]
    trivial
    by_cases hr : r = 0
    · rw [if_neg (by simp [hr])]
      have := hk (some (.d (bnD (r, m))))
      rw [if_neg (by simp [hr])] at this
      exact this
    · rw [if_pos (by simp [hr])]
      refine ok_lasts_for h1 (r, m) (hb _ hb') ?_
      have := hk (some (.d (bnD (r, m))))
      rw [if_pos (by simp [hr])] at this
      unfold lasts
      rw [if_neg hr]
      exact this
  · trivial
    rw [show (List.filter (fun b : Int × Int => b.fst != 0) bs).map (fun b => PyData.int (b.2 / b.1)) = (lows bs).map .int by unfold lows; rw [List.map_map]; rfl]
    unfold least at q
    cases w : lows bs with
    | nil => rw [w] at q; exact q
    | cons x xs =>
      rw [w] at q
      exact b_min_ints q
end

def memD (ys : List D) (x : Int) : Bool := ys.any fun z => PyData.eqv z (.int x)
def over (bs : List (Int × Int)) (c : Int) : Bool := bs.any fun b => decide (b.2 < b.1 * c)
theorem in_seq {ds : D} {ys : List D} {x : Int} {k : Bool → Prop} (hd : seqOf ds = some ys) (q : k (memD ys x)) : inD (.int x) ds k := by
  have e : (PyData.int x).depth = 0 := by simp [PyData.depth]
  cases ds with
  | list zs => cases hd; exact ⟨by rw [e]; omega, q⟩
  | tuple zs => cases hd; exact ⟨by rw [e]; omega, q⟩
  | _ => cases hd
theorem bn_0 {b : Int × Int} {k : D → Prop} : ixD (bnD b) (.int 0) k = k (.int b.1) := propext ⟨fun ⟨_, e, q⟩ => by cases e; exact q, fun q => ⟨_, rfl, q⟩⟩
theorem bn_1 {b : Int × Int} {k : D → Prop} : ixD (bnD b) (.int 1) k = k (.int b.2) := propext ⟨fun ⟨_, e, q⟩ => by cases e; exact q, fun q => ⟨_, rfl, q⟩⟩
section
variable {G : Pg} {kd : D → Prop}
theorem ok_never_full (h : G.fns f__law_never_full = some ⟨b__law_never_full, 6⟩) {n : Nat} (bs : List (Int × Int)) (hl : bs.length ≤ 100) (most : Nat) (hm : most ≤ 1000) (ds : D) (ys : List D) (hd : seqOf ds = some ys) (hq : kd (.bool (nf (over bs) (memD ys) most 1 0))) : callN G (n + 1) f__law_never_full [.d (.tuple (bs.map bnD)), .d (.int most), .d ds] kd := by
  rw [callN_fn h]
  unfold b__law_never_full
  trivial
  have hbl : (bs.map bnD).length = bs.length := List.length_map _
  have lev : ∀ c : Int, PyData.list ((List.range bs.length).map (atD (fun b : Int × Int => .int (b.1 * c)) bs)) = .list (bs.map fun b => .int (b.1 * c)) := fun c => by rw [rmap]
  refine ⟨⟨by omega, by omega, by omega⟩, 1, (most : Int) + 1, rfl, rfl, ⟨by omega, by omega, by omega, by omega⟩, ?_⟩
  rw [hbl, show ((bs.length : Int)).toNat = bs.length from rfl, rep_flat]
  refine forL_rng (fun n d ρ => ∃ c x4, 0 ≤ c ∧ kd (.bool (nf (over bs) (memD ys) n d c)) ∧ ρ = [some (.d (.tuple (bs.map bnD))), some (.d (.int most)), some (.d ds), some (.d (.list (bs.map fun b => .int (b.1 * c)))), x4, none]) ?_ ?_ (n := most) (by omega) ⟨0, none, by omega, hq, by simp only [Int.mul_zero]⟩
  · rintro n d ρ k' ⟨c, x4, hc, hk, rfl⟩ hk'
    trivial
    refine ⟨⟨by omega, by omega⟩, ?_⟩
    rw [hbl]
    rw [rng0]
    refine lcl_map _ (atD (fun b : Int × Int => .int (b.1 * (c + 1))) bs) 5 rfl (by rw [List.length_range]; omega) (fun i hi x k2 hk2 => ?_) fun x => ?_
    · have hi := List.mem_range.mp hi
      trivial
      rw [at_nat, at_nat, List.getElem?_map, List.getElem?_map, List.getElem?_eq_getElem hi]
      trivial
      rw [bn_0]
      trivial
      rw [show bs[i].1 * c + bs[i].1 = bs[i].1 * (c + 1) by rw [Int.mul_add, Int.mul_one]]
      have := hk2 (some (.d (.int (i : Int))))
      rw [atD_some (List.getElem?_eq_getElem hi)] at this
      exact this
    · trivial
      rw [rmap]
      refine ⟨⟨by omega, by omega⟩, ?_⟩
      rw [hbl, rng0]
      refine lcl_map _ (atD (fun b : Int × Int => .bool (decide (b.2 < b.1 * (c + 1)))) bs) 5 rfl (by rw [List.length_range]; omega) (fun i hi x k2 hk2 => ?_) fun x => ?_
      · have hi := List.mem_range.mp hi
        trivial
        rw [at_nat, at_nat, List.getElem?_map, List.getElem?_map, List.getElem?_eq_getElem hi]
        trivial
        rw [bn_1]
        trivial
        have := hk2 (some (.d (.int (i : Int))))
        rw [atD_some (List.getElem?_eq_getElem hi)] at this
        exact this
      · rw [rmap, any_map_bool]
        refine ⟨fits_map_bool, ?_⟩
        rw [nf] at hk
        rw [show (bs.any fun b => decide (b.snd < b.fst * (c + 1))) = over bs (c + 1) from rfl]
        by_cases q : over bs (c + 1) = true
        · rw [if_pos q] at hk
          rw [if_pos q]
          exact hk
        · rw [if_neg q] at hk
          rw [if_neg q]
          trivial
          refine in_seq hd ?_
          by_cases m : memD ys d = true
          · rw [if_pos m] at hk
            rw [if_pos m]
            trivial
            refine ⟨⟨by omega, by omega, by omega⟩, hk' _ ⟨0, some (.d (.int d)), by omega, hk, ?_⟩⟩
            rw [hbl, show ((bs.length : Int)).toNat = bs.length from rfl, rep_flat]
            simp only [Int.mul_zero]
          · rw [if_neg m] at hk
            rw [if_neg m]
            trivial
            exact hk' _ ⟨c + 1, _, by omega, hk, rfl⟩
  · rintro d ρ ⟨c, x4, hc, hk, rfl⟩
    exact hk
end

def isNum (lo hi : Int) : D → Bool
  | .int n => decide (lo ≤ n) && decide (n ≤ hi)
  | _ => false
def toI : D → Int
  | .int n => n
  | _ => 0
theorem ints_of {lo hi : Int} : ∀ {xs : List D}, xs.all (isNum lo hi) = true → xs = (xs.map toI).map .int ∧ ∀ n ∈ xs.map toI, lo ≤ n ∧ n ≤ hi
  | [], _ => ⟨rfl, by simp⟩
  | x :: xs, h => by
    rw [List.all_cons, Bool.and_eq_true] at h
    have ih := ints_of h.2
    cases x with
    | int n =>
      have h1 := h.1
      simp only [isNum, Bool.and_eq_true, decide_eq_true_eq] at h1
      refine ⟨by rw [List.map_cons, List.map_cons, ← ih.1]; rfl, fun m hm => ?_⟩
      rw [List.map_cons] at hm
      rcases List.mem_cons.mp hm with rfl | hm
      · exact h1
      · exact ih.2 m hm
    | _ => exact absurd h.1 (by simp [isNum])
def areDays (lo hi : Int) : D → Bool
  | .tuple xs => xs.all (isNum lo hi) && ascB (xs.map toI)
  | _ => false
theorem asc_pairs : ∀ ns : List Int, ascB ns = pairsB (fun a b => decide (a < b)) ns
  | [] => rfl
  | [_] => rfl
  | x :: y :: l => by rw [ascB, pairsB, asc_pairs (y :: l)]
theorem sset_ints {ns : List Int} {k : List D → Prop} (hl : ns.length ≤ 4000) (q : ∀ bs, SG.Outc (· ≤ ·) ns bs → k (bs.map .int)) : ssetK (.tuple (ns.map .int)) k := by
  rw [sset_tuple]
  refine ⟨?_, .inr ⟨ns, rfl, q⟩⟩
  rw [List.length_map]
  have : scanBound = 4096 := rfl
  omega
section
variable {G : Pg} {kd : D → Prop}
theorem ok_is_number (h : G.fns f_is_number = some ⟨b_is_number, 3⟩) {n : Nat} (lo hi : Int) (v : D) (q : kd (.bool (isNum lo hi v))) : callN G (n + 1) f_is_number [.d v, .d (.int lo), .d (.int hi)] kd := by
  rw [callN_fn h]
  unfold b_is_number
  cases v with
  | int m =>
    unfold isNum at q
    trivial
    cases w : decide (lo ≤ m) with
    | true => simp only [w, Bool.true_and] at q; exact q
    | false => simp only [w, Bool.false_and] at q; exact q
  | _ => trivial; exact q
theorem ok_law_whole (h : G.fns f__law_whole = some ⟨b__law_whole, 3⟩) {n : Nat} (lo hi : Int) (v : D) (q : kd (.bool (isNum lo hi v))) : callN G (n + 1) f__law_whole [.d v, .d (.int lo), .d (.int hi)] kd := by
  rw [callN_fn h]
  unfold b__law_whole
  cases v with
  | int m =>
    unfold isNum at q
    trivial
    cases w : decide (lo ≤ m) with
    | true => simp only [w, Bool.true_and] at q; exact q
    | false => simp only [w, Bool.false_and] at q; exact q
  | _ => trivial; exact q
theorem ok_are_days (h1 : G.fns f__law_whole = some ⟨b__law_whole, 3⟩) (h : G.fns f__law_are_days = some ⟨b__law_are_days, 4⟩) {n k : Nat} (lo hi : Int) (v : D) (hv : fitD k v) (h4 : ∀ xs, v = .tuple xs → xs.length ≤ 4000) (q : kd (.bool (areDays lo hi v))) : callN G (n + 2) f__law_are_days [.d (.int lo), .d (.int hi), .d v] kd := by
  rw [callN_fn h]
  unfold b__law_are_days
  cases v with
  | tuple xs =>
    cases k with
    | zero => simp only [fitD] at hv
    | succ k =>
    simp only [fitD] at hv
    trivial
    refine lcl_mapI (fun x => .bool (isNum lo hi x)) 3 rfl (by omega) (fun x hx c k2 hk => ?_) fun c => ?_
    · trivial
      refine ok_law_whole h1 lo hi x ?_
      exact hk (some (.d x))
    · refine ⟨fits_map_bool, ?_⟩
      rw [all_map_bool]
      rw [show areDays lo hi (.tuple xs) = (xs.all (isNum lo hi) && ascB (xs.map toI)) from rfl] at q
      replace h4 := h4 xs rfl
      cases w : xs.all (isNum lo hi) with
      | false => rw [w] at q; rw [if_neg (by simp)]; exact q
      | true =>
        rw [w, Bool.true_and] at q
        rw [if_pos rfl]
        obtain ⟨e, hb⟩ := ints_of w
        generalize xs.map toI = ns at e q hb
        subst e
        trivial
        refine ⟨by rw [List.length_map] at h4 ⊢; rw [show scanBound = 4096 from rfl]; omega, .inr ⟨ns, rfl, fun bs ho => ?_⟩⟩
        refine ⟨by rw [CmpOk, dep_lint, dep_lint]; decide, ?_⟩
        rw [eqv_lints]
        have := sset_one ho.1 ho.2.1 ho.2.2
        rw [show decide (ns = bs) = ascB ns from by
          cases w2 : ascB ns with
          | true => exact decide_eq_true (this.mpr w2)
          | false => exact decide_eq_false fun z => by rw [this.mp z] at w2; cases w2]
        exact q
  | _ => trivial; exact q
theorem ok_is_ascending (h : G.fns f_is_ascending = some ⟨b_is_ascending, 2⟩) {n : Nat} (ns : List Int) (hl : ns.length ≤ 100000) (q : kd (.bool (ascB ns))) : callN G (n + 1) f_is_ascending [.d (.tuple (ns.map .int))] kd := by
  rw [callN_fn h]
  unfold b_is_ascending
  trivial
  have hnl : (ns.map PyData.int).length = ns.length := List.length_map _
  refine ⟨⟨by omega, by omega⟩, ?_⟩
  rw [hnl, rngT, show ((ns.length : Int) - 1).toNat = ns.length - 1 by omega]
  refine lcl_map _ (fun i => .bool (decide (ns.getD i 0 < ns.getD (i + 1) 0))) 1 rfl (by rw [List.length_range]; omega) (fun i hi c k2 hk => ?_) fun c => ?_
  · have hi := List.mem_range.mp hi
    trivial
    rw [at_nat, show (i : Int) + 1 = ((i + 1 : Nat) : Int) by omega, at_nat, List.getElem?_map, List.getElem?_map, List.getElem?_eq_getElem (show i < ns.length by omega), List.getElem?_eq_getElem (show i + 1 < ns.length by omega)]
    trivial
    have := hk (some (.d (.int (i : Int))))
    rw [List.getD_eq_getElem?_getD, List.getD_eq_getElem?_getD, List.getElem?_eq_getElem (show i < ns.length by omega), List.getElem?_eq_getElem (show i + 1 < ns.length by omega)] at this
    exact this
  · rw [all_map_bool, pairs_range (fun a b => decide (a < b)), ← asc_pairs]
    exact ⟨fits_map_bool, q⟩
end

/-- whether days do: the law's word, by gaps -/
def gapsB (o : Option Int) (p : Int) (ns : List Int) (T : Int) : Bool := match o with
  | none => true
  | some k => decide (chain k p ns T)
theorem gaps_none {p : Int} {ns : List Int} {T : Int} : gapsB none p ns T = true := rfl
theorem gaps_some {k p : Int} {ns : List Int} {T : Int} : gapsB (some k) p ns T = decide (chain k p ns T) := rfl
theorem gaps_pairs {k T : Int} : ∀ {p : Int} {ns : List Int}, pairsB (fun a b => decide (b - a ≤ k)) (p :: (ns ++ [T])) = decide (chain k p ns T)
  | p, [] => by rw [List.nil_append, pairsB, pairsB, Bool.and_true]; exact decide_eq_decide.mpr Iff.rfl
  | p, x :: xs => by
    rw [List.cons_append, pairsB, gaps_pairs]
    rw [Bool.eq_iff_iff]
    simp only [Bool.and_eq_true, decide_eq_true_eq]
    rfl
def doB (o : Option Int) (T : Int) : D → Bool
  | .tuple xs => xs.all (isNum 1 T) && (ascB (xs.map toI) && gapsB o 0 (xs.map toI) T)
  | _ => false
def cycB (o : Option Int) (w : Int) : List Int → Bool
  | [] => match o with
    | none => true
    | some _ => false
  | x :: xs => gapsB o x xs (x + w)
def weekB (o : Option Int) (w : Int) : D → Bool
  | .tuple xs => xs.all (isNum 0 (w - 1)) && (ascB (xs.map toI) && cycB o w (xs.map toI))
  | _ => false
section
variable {G : Pg} {kd : D → Prop}
theorem ok_do_days (h0 : G.fns f_lasts_for = some ⟨b_lasts_for, 1⟩) (h1 : G.fns f_least_lasting = some ⟨b_least_lasting, 3⟩) (h2 : G.fns f_is_number = some ⟨b_is_number, 3⟩) (h3 : G.fns f_is_ascending = some ⟨b_is_ascending, 2⟩) (h : G.fns f_do_days = some ⟨b_do_days, 7⟩) {n k : Nat} (bs : List (Int × Int)) (hb : ∀ b ∈ bs, okBin b) (hl : bs.length ≤ 100) (T : Int) (v : D) (hv : fitD k v) (q : kd (.bool (doB (least bs) T v))) : callN G (n + 3) f_do_days [.d (.tuple (bs.map bnD)), .d (.int T), .d v] kd := by
  rw [callN_fn h]
  unfold b_do_days
  cases v with
  | tuple xs =>
    cases k with
    | zero => simp only [fitD] at hv
    | succ k =>
    simp only [fitD] at hv
    rw [show doB (least bs) T (.tuple xs) = (xs.all (isNum 1 T) && (ascB (xs.map toI) && gapsB (least bs) 0 (xs.map toI) T)) from rfl] at q
    trivial
    refine lcl_mapI (fun x => .bool (isNum 1 T x)) 6 rfl (by omega) (fun x hx c k2 hk => ?_) fun c => ?_
    · trivial
      refine ok_is_number h2 1 T x ?_
      exact hk (some (.d x))
    · refine ⟨fits_map_bool, ?_⟩
      rw [all_map_bool]
      cases w : xs.all (isNum 1 T) with
      | false => rw [w] at q; trivial; exact q
      | true =>
        rw [w, Bool.true_and] at q
        obtain ⟨e, hbd⟩ := ints_of w
        generalize xs.map toI = ns at e q hbd
        subst e
        trivial
        refine ok_is_ascending h3 ns (by simpa using hv.1) ?_
        cases w2 : ascB ns with
        | false => rw [w2] at q; trivial; exact q
        | true =>
        rw [w2, Bool.true_and] at q
        trivial
        have hnl : (ns.map PyData.int).length = ns.length := List.length_map _
        have hv1 := hv.1
        refine ⟨by omega, by omega, ok_least h0 h1 bs hb hl ?_⟩
        cases w3 : least bs with
        | none => rw [w3, gaps_none] at q; unfold optD; trivial; exact q
        | some k =>
          rw [w3, gaps_some] at q
          unfold optD
          trivial
          rw [← gaps_pairs] at q
          rw [show PyData.int 0 :: (ns.map PyData.int ++ [.int T]) = (0 :: (ns ++ [T])).map .int by simp, show (ns.map PyData.int ++ [PyData.int T]).length + 1 = (0 :: (ns ++ [T])).length by simp]
          have hsl : (0 :: (ns ++ [T])).length ≤ 200000 := by simp; omega
          generalize 0 :: (ns ++ [T]) = sp at q hsl
          refine ⟨⟨by omega, by omega⟩, ?_⟩
          rw [rngT, show ((sp.length : Int) - 1).toNat = sp.length - 1 by omega]
          refine lcl_map _ (fun i => .bool (decide (sp.getD (i + 1) 0 - sp.getD i 0 ≤ k))) 5 rfl (by rw [List.length_range]; omega) (fun i hi c k2 hk => ?_) fun c => ?_
          · have hi := List.mem_range.mp hi
            trivial
            rw [at_nat, show (i : Int) + 1 = ((i + 1 : Nat) : Int) by omega, at_nat, List.getElem?_map, List.getElem?_map, List.getElem?_eq_getElem (show i < sp.length by omega), List.getElem?_eq_getElem (show i + 1 < sp.length by omega)]
            trivial
            have := hk (some (.d (.int (i : Int))))
            rw [List.getD_eq_getElem?_getD, List.getD_eq_getElem?_getD, List.getElem?_eq_getElem (show i < sp.length by omega), List.getElem?_eq_getElem (show i + 1 < sp.length by omega)] at this
            exact this
          · rw [all_map_bool, pairs_range (fun a b => decide (b - a ≤ k))]
            exact ⟨fits_map_bool, q⟩
  | _ => trivial; exact q
end

section
variable {G : Pg} {kd : D → Prop}
theorem ok_do_week (h0 : G.fns f_lasts_for = some ⟨b_lasts_for, 1⟩) (h1 : G.fns f_least_lasting = some ⟨b_least_lasting, 3⟩) (h2 : G.fns f_is_number = some ⟨b_is_number, 3⟩) (h3 : G.fns f_is_ascending = some ⟨b_is_ascending, 2⟩) (h : G.fns f_do_week = some ⟨b_do_week, 7⟩) {n k : Nat} (bs : List (Int × Int)) (hb : ∀ b ∈ bs, okBin b) (hl : bs.length ≤ 100) (w : Int) (v : D) (hv : fitD k v) (q : kd (.bool (weekB (least bs) w v))) : callN G (n + 3) f_do_week [.d (.tuple (bs.map bnD)), .d (.int w), .d v] kd := by
  rw [callN_fn h]
  unfold b_do_week
  cases v with
  | tuple xs =>
    cases k with
    | zero => simp only [fitD] at hv
    | succ k =>
    simp only [fitD] at hv
    rw [show weekB (least bs) w (.tuple xs) = (xs.all (isNum 0 (w - 1)) && (ascB (xs.map toI) && cycB (least bs) w (xs.map toI))) from rfl] at q
    trivial
    refine lcl_mapI (fun x => .bool (isNum 0 (w - 1) x)) 6 rfl (by omega) (fun x hx c k2 hk => ?_) fun c => ?_
    · trivial
      refine ok_is_number h2 0 (w - 1) x ?_
      exact hk (some (.d x))
    · refine ⟨fits_map_bool, ?_⟩
      rw [all_map_bool]
      cases w1 : xs.all (isNum 0 (w - 1)) with
      | false => rw [w1] at q; trivial; exact q
      | true =>
        rw [w1, Bool.true_and] at q
        obtain ⟨e, hbd⟩ := ints_of w1
        generalize xs.map toI = ns at e q hbd
        subst e
        trivial
        refine ok_is_ascending h3 ns (by simpa using hv.1) ?_
        cases w2 : ascB ns with
        | false => rw [w2] at q; trivial; exact q
        | true =>
        rw [w2, Bool.true_and] at q
        trivial
        refine ok_least h0 h1 bs hb hl ?_
        trivial
        rw [cmp_nilT, List.isEmpty_map]
        cases ns with
        | nil =>
          trivial
          cases w3 : least bs with
          | none => rw [w3] at q; unfold optD; trivial; exact q
          | some k => rw [w3] at q; unfold optD; trivial; exact q
        | cons x ns =>
        rw [show cycB (least bs) w (x :: ns) = gapsB (least bs) x ns (x + w) from rfl] at q
        rw [List.isEmpty_cons]
        trivial
        have hnl : (ns.map PyData.int).length = ns.length := List.length_map _
        have hv1 := hv.1
        rw [List.length_map, List.length_cons] at hv1
        cases w3 : least bs with
        | none => rw [w3, gaps_none] at q; unfold optD; trivial; exact q
        | some k =>
          rw [w3, gaps_some] at q
          unfold optD
          trivial
          rw [← gaps_pairs] at q
          rw [show PyData.int x :: (ns.map PyData.int ++ [.int (x + w)]) = (x :: (ns ++ [x + w])).map .int by simp, show (ns.map PyData.int).length + 1 = (x :: (ns ++ [x + w])).length - 1 by simp]
          have hsl : (x :: (ns ++ [x + w])).length ≤ 200000 := by simp; omega
          refine ⟨by omega, ?_⟩
          generalize x :: (ns ++ [x + w]) = sp at q hsl
          refine ⟨⟨by omega, by omega⟩, ?_⟩
          rw [rngT, show (((sp.length - 1 : Nat) : Int)).toNat = sp.length - 1 by omega]
          refine lcl_map _ (fun i => .bool (decide (sp.getD (i + 1) 0 - sp.getD i 0 ≤ k))) 5 rfl (by rw [List.length_range]; omega) (fun i hi c k2 hk => ?_) fun c => ?_
          · have hi := List.mem_range.mp hi
            trivial
            rw [at_nat, show (i : Int) + 1 = ((i + 1 : Nat) : Int) by omega, at_nat, List.getElem?_map, List.getElem?_map, List.getElem?_eq_getElem (show i < sp.length by omega), List.getElem?_eq_getElem (show i + 1 < sp.length by omega)]
            trivial
            have := hk (some (.d (.int (i : Int))))
            rw [List.getD_eq_getElem?_getD, List.getD_eq_getElem?_getD, List.getElem?_eq_getElem (show i < sp.length by omega), List.getElem?_eq_getElem (show i + 1 < sp.length by omega)] at this
            exact this
          · rw [all_map_bool, pairs_range (fun a b => decide (b - a ≤ k))]
            exact ⟨fits_map_bool, q⟩
  | _ => trivial; exact q
end

def rowD (r : List Int) : D := .tuple (r.map .int)
theorem row_eq {r : List Int} : rowD r = .tuple (r.map .int) := rfl
def mx0 (T : Int) : Int := if T - 1 > 0 then T - 1 else 0
def lenD (v : D) : Int := match v with
  | .tuple xs => xs.length
  | _ => 0
def showB (bs : List (Int × Int)) (T : Int) (v i : D) : Bool := doB (least bs) T v && (isNum 0 (bs.length - 1) i && match bs[(toI i).toNat]? with
  | some b => match lasts b with
    | some k => decide (lenD v = mx0 T / k)
    | none => false
  | none => false)
theorem do_tuple {o : Option Int} {T : Int} {v : D} (h : doB o T v = true) : ∃ xs, v = .tuple xs := by
  cases v with
  | tuple xs => exact ⟨xs, rfl⟩
  | _ => cases h
theorem lasts_pos {b : Int × Int} (hb : okBin b) {k : Int} (h : lasts b = some k) : 1 ≤ k ∧ k ≤ 12 := by
  unfold lasts at h
  unfold okBin at hb
  by_cases q : b.1 = 0
  · rw [if_pos q] at h; cases h
  · rw [if_neg q] at h
    cases h
    have h1 : 1 ≤ b.2 / b.1 := (Int.le_ediv_iff_mul_le (by omega)).mpr (by omega)
    have h2 : b.2 / b.1 ≤ b.2 := Int.ediv_le_self _ (by omega)
    omega
section
variable {G : Pg} {kd : D → Prop}
theorem ok_shows_days (h0 : G.fns f_lasts_for = some ⟨b_lasts_for, 1⟩) (h1 : G.fns f_least_lasting = some ⟨b_least_lasting, 3⟩) (h2 : G.fns f_is_number = some ⟨b_is_number, 3⟩) (h3 : G.fns f_is_ascending = some ⟨b_is_ascending, 2⟩) (h4 : G.fns f_do_days = some ⟨b_do_days, 7⟩) (h : G.fns f_shows_days = some ⟨b_shows_days, 4⟩) {n k : Nat} (bs : List (Int × Int)) (hb : ∀ b ∈ bs, okBin b) (hl : bs.length ≤ 100) (T : Int) (v : D) (hv : fitD k v) (i : D) (q : kd (.bool (showB bs T v i))) : callN G (n + 4) f_shows_days [.d (.tuple (bs.map bnD)), .d (.int T), .d v, .d i] kd := by
  rw [callN_fn h]
  unfold b_shows_days
  unfold showB at q
  trivial
  refine ok_do_days h0 h1 h2 h3 h4 bs hb hl T v hv ?_
  cases w : doB (least bs) T v with
  | false => rw [w] at q; trivial; exact q
  | true =>
  obtain ⟨xs, rfl⟩ := do_tuple w
  rw [w, Bool.true_and] at q
  trivial
  refine ok_is_number h2 _ _ _ ?_
  rw [List.length_map]
  cases w2 : isNum 0 ((bs.length : Int) - 1) i with
  | false => rw [w2] at q; trivial; exact q
  | true =>
  rw [w2, Bool.true_and] at q
  cases i with
  | int i =>
    simp only [isNum, Bool.and_eq_true, decide_eq_true_eq] at w2
    obtain ⟨j, rfl⟩ : ∃ j : Nat, i = j := ⟨i.toNat, by omega⟩
    have hj : j < bs.length := by omega
    rw [show (toI (.int (j : Int))).toNat = j from rfl, List.getElem?_eq_getElem hj] at q
    have hbj := hb _ (List.getElem_mem hj)
    trivial
    rw [at_nat, List.getElem?_map, List.getElem?_eq_getElem hj]
    trivial
    refine ok_lasts_for h0 _ hbj ?_
    cases w3 : lasts bs[j] with
    | none => simp only [w3] at q; unfold optD; trivial; exact q
    | some k =>
      simp only [w3] at q
      have := lasts_pos hbj w3
      unfold optD
      trivial
      refine ok_lasts_for h0 _ hbj ?_
      rw [w3]
      unfold optD
      trivial
      exact ⟨divW (by omega) (by omega), q⟩
  | _ => cases w2
theorem ok_law_subsets (h : G.fns f__law_subsets = some ⟨b__law_subsets, 4⟩) {n : Nat} (a : Int) (m : Nat) (hm : m ≤ 12) (q : kd (.list ((subsN a m).map rowD))) : callN G (n + 1) f__law_subsets [.d (.list (rngL a (a + m)))] kd := by
  rw [callN_fn h]
  unfold b__law_subsets
  trivial
  refine forL_rng (fun j d ρ => j ≤ m ∧ d = a + ((m - j : Nat) : Int) ∧ ∃ x2, ρ = [some (.d (.list (rngL a (a + m)))), some (.d (.list ((subsN a (m - j)).map rowD))), x2, none]) ?_ ?_ (n := m) (by omega) ⟨Nat.le_refl m, by omega, none, by rw [Nat.sub_self]; rfl⟩
  · rintro j d ρ k' ⟨hj, hd, x2, rfl⟩ hk'
    have hsz : (subsN a (m - (j + 1))).length ≤ 4096 := by
      rw [subsN_len]
      exact Nat.le_trans (Nat.pow_le_pow_right (by decide) (show m - (j + 1) ≤ 12 by omega)) (by decide)
    trivial
    refine lcl_map rowD (fun r => rowD (r ++ [d])) 3 rfl (by omega) (fun r hr c k2 hk => ?_) fun c => ?_
    · have hrl := subsN_mem_len hr
      rw [row_eq]
      trivial
      refine ⟨by rw [List.length_map]; omega, ?_⟩
      have := hk (some (.d (rowD r)))
      rw [row_eq, List.map_append] at this
      exact this
    · trivial
      refine ⟨by rw [List.length_map, List.length_map]; omega, hk' _ ⟨by omega, by omega, some (.d (.int d)), ?_⟩⟩
      rw [show m - j = m - (j + 1) + 1 by omega, subsN, List.map_append, List.map_map, hd]
      rfl
  · rintro d ρ ⟨_, hd, x2, rfl⟩
    trivial
    exact q
theorem ok_law_turned (h : G.fns f__law_turned = some ⟨b__law_turned, 5⟩) {n : Nat} (x : Int) (r : List Int) (hx : r[0]? = some x) (hl : r.length ≤ 1000) (w : Int) (hw : w.natAbs ≤ 1000) (q : kd (.list ((turned x w r).map .int))) : callN G (n + 1) f__law_turned [.d (rowD r), .d (.int w)] kd := by
  rw [callN_fn h]
  unfold b__law_turned rowD
  trivial
  refine ⟨by decide, ?_⟩
  rw [show rngL 0 4 = [0, 1, 2, 3].map PyData.int from rfl]
  have hlen : (turned x w r).length ≤ 5000 := by unfold turned; simp; omega
  refine forL_left PyData.int (fun (js : List Int) ρ => (∀ j ∈ js, j.natAbs ≤ 3) ∧ ∃ x3 acc, acc ++ (js.flatMap fun j : Int => r.map fun y => y + j * w - x) = turned x w r ∧ ρ = [some (.d (.tuple (r.map .int))), some (.d (.int w)), some (.own (.list (acc.map .int))), x3, none]) ?_ ?_ (as := [0, 1, 2, 3]) ⟨by decide, none, [], rfl, rfl⟩
  · rintro j js ρ k' ⟨hjs, x3, acc, e, rfl⟩ hk'
    have hj := hjs j List.mem_cons_self
    have hlen2 := congrArg List.length e
    rw [List.length_append, List.flatMap_cons, List.length_append, List.length_map] at hlen2
    trivial
    refine lcl_map (as := r) PyData.int (fun y => .int (y + j * w - x)) 4 rfl (by omega) (fun y hy c k2 hk => ?_) fun c => ?_
    · trivial
      rw [List.getElem?_map, hx]
      trivial
      exact ⟨mulR (by omega), hk (some (.d (.int y)))⟩
    · trivial
      refine ⟨by rw [List.length_map, List.length_map]; omega, hk' _ ⟨fun i hi => hjs i (List.mem_cons_of_mem _ hi), some (.d (.int j)), acc ++ r.map (fun y => y + j * w - x), ?_, ?_⟩⟩
      · rw [← e, List.flatMap_cons, List.append_assoc]
      · rw [List.map_append, List.map_map]; rfl
  · rintro ρ ⟨_, x3, acc, e, rfl⟩
    trivial
    rw [List.flatMap_nil, List.append_nil] at e
    rw [e]
    exact q
theorem ok_fewest (h0 : G.fns f_lasts_for = some ⟨b_lasts_for, 1⟩) (h1 : G.fns f_least_lasting = some ⟨b_least_lasting, 3⟩) (h : G.fns f_fewest_bin_days = some ⟨b_fewest_bin_days, 6⟩) {n : Nat} (bs : List (Int × Int)) (hb : ∀ b ∈ bs, okBin b) (hl : bs.length ≤ 100) (T : Nat) (hT : T ≤ 1000) (hk : ∀ k, least bs = some k → 1 ≤ k ∧ k ≤ 1000) (q : kd (rowD (match least bs with | none => [] | some k => greedy k T 0 (many k T)))) : callN G (n + 3) f_fewest_bin_days [.d (.tuple (bs.map bnD)), .d (.int T)] kd := by
  rw [callN_fn h]
  unfold b_fewest_bin_days
  trivial
  refine ok_least h0 h1 bs hb hl ?_
  cases w : least bs with
  | none => rw [w] at q; unfold optD; trivial; exact q
  | some k =>
    rw [w] at q
    unfold optD
    trivial
    replace q : kd (rowD (greedy k T 0 (many k T))) := q
    have ⟨hk1, hk2⟩ := hk k w
    cases w2 : decide ((T : Int) = 0) with
    | true =>
      have := of_decide_eq_true w2
      rw [show many k T = 0 by unfold many; rw [if_pos this]; rfl] at q
      trivial
      exact q
    | false =>
    have hT0 := of_decide_eq_false w2
    trivial
    have d0 : 0 ≤ ((T : Int) - 1) / k := Int.ediv_nonneg (by omega) (by omega)
    have d1 : ((T : Int) - 1) / k ≤ (T : Int) - 1 := Int.ediv_le_self _ (by omega)
    have hm : ((T : Int) - 1) / k = (many k T : Int) := by unfold many; rw [if_neg hT0, Int.toNat_of_nonneg d0]
    rw [hm] at d1 ⊢
    refine ⟨divW (by omega) (by omega), ⟨by omega, by omega⟩, ?_⟩
    refine forL_rng (fun j d ρ => d = (many k T : Int) - j ∧ ∃ x3 pre p, (pre ++ p :: greedy k T p j) = 0 :: greedy k T 0 (many k T) ∧ ρ = [some (.d (.tuple (bs.map bnD))), some (.d (.int T)), some (.d (.int k)), x3, some (.d (.int (many k T))), some (.own (.list ((pre ++ [p]).map .int)))]) ?_ ?_ (n := many k T) (by omega) ⟨by omega, none, [], 0, rfl, rfl⟩
    · rintro j d ρ k' ⟨hd, x3, pre, p, e, rfl⟩ hk'
      have hlen := congrArg List.length e
      rw [List.length_append, List.length_cons, List.length_cons, greedy_len, greedy_len] at hlen
      rw [List.map_append, List.map_cons, List.map_nil]
      trivial
      refine ⟨.int p, L2.atI_last _ _, ?_⟩
      trivial
      refine ⟨mulL (by omega), by rw [List.length_append, List.length_map, List.length_singleton]; omega, hk' _ ⟨by omega, some (.d (.int d)), pre ++ [p], max (p + 1) (T - ((j : Int) + 1) * k), ?_, ?_⟩⟩
      · rw [← e, greedy, List.append_assoc]; rfl
      · have e1 : (if (T : Int) - ((many k T : Int) - d) * k > p + 1 then (T : Int) - ((many k T : Int) - d) * k else p + 1) = max (p + 1) (T - ((j : Int) + 1) * k) := by
          rw [show (many k T : Int) - d = (j : Int) + 1 by omega]
          omega
        rw [e1, List.map_append, List.map_append]
        rfl
    · rintro d ρ ⟨_, x3, pre, p, e, rfl⟩
      trivial
      rw [greedy] at e
      rw [e, cut_1]
      exact q
end

def isNil {α : Type} : List α → Bool
  | [] => true
  | _ => false
def foreverB (bs : List (Int × Int)) (w : Nat) (r : List Int) : Bool := match r with
  | [] => isNil (lows bs)
  | x :: xs => nf (over bs) (memD ((turned x w (x :: xs)).map .int)) (3 * w) 1 0
def binToldB (v : D) : Bool := match v with
  | .tuple [a, b] => isNum 0 9 a && isNum (if toI a > 1 then toI a else 1) 60 b
  | _ => false
def binsToldB (v : D) : Bool := match v with
  | .tuple xs => decide (1 ≤ (xs.length : Int)) && (decide ((xs.length : Int) ≤ 10) && xs.all binToldB)
  | _ => false
mutual
/-- small data -/
def smD : Nat → D → Prop
  | n + 1, .tuple xs => xs.length ≤ 2000 ∧ smL n xs
  | _, .int m => m.natAbs < 2 ^ 60
  | _, .none => True
  | _, .bool _ => True
  | _, _ => False
def smL : Nat → List D → Prop
  | _, [] => True
  | n, x :: xs => smD n x ∧ smL n xs
end
theorem smL_all {n : Nat} : ∀ {xs : List D}, (∀ x ∈ xs, smD n x) ↔ smL n xs
  | [] => by simp [smL]
  | x :: xs => by
    rw [smL, ← smL_all]
    simp
theorem sm_fit : ∀ (n : Nat) (d : D), smD n d → fitD n d
  | n, d, h => by
    cases d with
    | tuple xs =>
      cases n with
      | zero => simp only [smD] at h
      | succ n =>
        simp only [smD] at h
        simp only [fitD]
        exact ⟨by omega, fitL_all.mp fun x hx => sm_fit n x (smL_all.mpr h.2 x hx)⟩
    | list xs => cases n <;> simp only [smD] at h
    | dict xs => cases n <;> simp only [smD] at h
    | _ => cases n <;> simp only [fitD]
def okV (n : Nat) (d : D) : Prop := fitD n d ∧ ∀ xs, d = .tuple xs → xs.length ≤ 4000
theorem any_lows : ∀ bs : List (Int × Int), (bs.any fun x => x.fst != 0) = !isNil (lows bs)
  | [] => rfl
  | b :: bs => by
    have ih := any_lows bs
    unfold lows at ih ⊢
    rw [List.any_cons, ih, List.filter_cons]
    cases w : b.1 != 0 <;> simp [isNil]
section
variable {G : Pg} {kd : D → Prop}
theorem ok_is_bin_told (h2 : G.fns f_is_number = some ⟨b_is_number, 3⟩) (h : G.fns f_is_bin_told = some ⟨b_is_bin_told, 1⟩) (c1 : G.cst 1 = some (.int 60)) (c2 : G.cst 2 = some (.int 9)) {n : Nat} (v : D) (q : kd (.bool (binToldB v))) : callN G (n + 2) f_is_bin_told [.d v] kd := by
  rw [callN_fn h]
  unfold b_is_bin_told
  cases v with
  | tuple xs =>
    match xs, q with
    | [], q => trivial; exact q
    | [a], q => trivial; exact q
    | a :: b :: c :: l, q =>
      trivial
      rw [decide_eq_false (show ¬ ((l.length + 1 + 1 + 1 : Nat) : Int) = 2 by omega)]
      exact q
    | [a, b], q =>
      rw [show binToldB (.tuple [a, b]) = (isNum 0 9 a && isNum (if toI a > 1 then toI a else 1) 60 b) from rfl] at q
      trivial
      rw [c1, c2]
      trivial
      refine ok_is_number h2 _ _ _ ?_
      cases w : isNum 0 9 a with
      | false => rw [w] at q; trivial; exact q
      | true =>
        rw [w, Bool.true_and] at q
        cases a with
        | int m =>
          trivial
          exact ok_is_number h2 _ _ _ q
        | _ => cases w
  | _ => trivial; exact q
theorem ok_are_bins_told (h2 : G.fns f_is_number = some ⟨b_is_number, 3⟩) (h3 : G.fns f_is_bin_told = some ⟨b_is_bin_told, 1⟩) (h : G.fns f_are_bins_told = some ⟨b_are_bins_told, 2⟩) (c0 : G.cst 0 = some (.int 10)) (c1 : G.cst 1 = some (.int 60)) (c2 : G.cst 2 = some (.int 9)) {n k : Nat} (v : D) (hv : fitD k v) (q : kd (.bool (binsToldB v))) : callN G (n + 3) f_are_bins_told [.d v] kd := by
  rw [callN_fn h]
  unfold b_are_bins_told
  cases v with
  | tuple xs =>
    have hlen : xs.length ≤ 100000 := by cases k <;> simp only [fitD] at hv; exact hv.1
    rw [show binsToldB (.tuple xs) = (decide (1 ≤ (xs.length : Int)) && (decide ((xs.length : Int) ≤ 10) && xs.all binToldB)) from rfl] at q
    trivial
    cases w : decide (1 ≤ (xs.length : Int)) with
    | false => rw [w] at q; exact q
    | true =>
    rw [w, Bool.true_and] at q
    trivial
    rw [c0]
    trivial
    cases w2 : decide ((xs.length : Int) ≤ 10) with
    | false => rw [w2] at q; exact q
    | true =>
    rw [w2, Bool.true_and] at q
    trivial
    refine lcl_mapI (fun x => .bool (binToldB x)) 1 rfl (by omega) (fun x hx c k2 hk => ?_) fun c => ?_
    · trivial
      refine ok_is_bin_told h2 h3 c1 c2 x ?_
      exact hk (some (.d x))
    · rw [all_map_bool]
      exact ⟨fits_map_bool, q⟩
  | _ => trivial; exact q
theorem ok_for_ever (h1 : G.fns f__law_never_full = some ⟨b__law_never_full, 6⟩) (h2 : G.fns f__law_turned = some ⟨b__law_turned, 5⟩) (h : G.fns f__law_for_ever = some ⟨b__law_for_ever, 5⟩) {n : Nat} (bs : List (Int × Int)) (hl : bs.length ≤ 100) (w : Nat) (hw : w ≤ 100) (r : List Int) (hr : r.length ≤ 1000) (q : kd (.bool (foreverB bs w r))) : callN G (n + 2) f__law_for_ever [.d (.tuple (bs.map bnD)), .d (.int w), .d (rowD r)] kd := by
  rw [callN_fn h]
  unfold b__law_for_ever rowD
  trivial
  rw [cmp_nilT, List.isEmpty_map]
  cases r with
  | nil =>
    rw [List.isEmpty_nil, if_pos rfl]
    refine lcl_ty bnD (fun b => some (.int b.1)) (fun ρ => ∃ c4 c5, ρ = [some (.d (.tuple (bs.map bnD))), some (.d (.int w)), some (.d (.tuple [])), c4, c5]) ⟨none, none, rfl⟩ (fun b hb ρ k2 ⟨c4, c5, e⟩ hk => ?_) (by simp; omega) fun ρ ⟨c4, c5, e⟩ => ?_
    · subst e
      rw [show bnD b = .tuple [.int b.1, .int b.2] from rfl]
      trivial
      exact hk _ ⟨_, _, rfl⟩
    · rw [List.nil_append, List.filterMap_eq_map', any_ints]
      refine ⟨fits_ints, ?_⟩
      rw [any_lows]
      rw [Bool.not_not]
      exact q
  | cons x xs =>
    rw [List.isEmpty_cons]
    rw [if_neg (by simp)]
    refine ⟨mulL (by decide), ?_⟩
    rw [show PyData.tuple ((x :: xs).map .int) = rowD (x :: xs) from rfl]
    refine ok_law_turned h2 x (x :: xs) rfl hr w (by omega) ?_
    exact ok_never_full h1 bs hl (3 * w) (by omega) _ _ rfl q
theorem ok_week_days (h0 : G.fns f_lasts_for = some ⟨b_lasts_for, 1⟩) (h1 : G.fns f_least_lasting = some ⟨b_least_lasting, 3⟩) (h2 : G.fns f_is_number = some ⟨b_is_number, 3⟩) (h3 : G.fns f_is_ascending = some ⟨b_is_ascending, 2⟩) (h4 : G.fns f_do_week = some ⟨b_do_week, 7⟩) (h : G.fns f_week_days = some ⟨b_week_days, 5⟩) {n : Nat} (bs : List (Int × Int)) (hb : ∀ b ∈ bs, okBin b) (hl : bs.length ≤ 100) (w : Nat) (hw : w ≤ 12) (hne : least bs ≠ none → ((subsN 0 w).filter fun r => weekB (least bs) w (rowD r)) ≠ []) (q : kd (match least bs with | none => .none | some _ => minR ((subsN 0 w).filter fun r => weekB (least bs) w (rowD r)))) : callN G (n + 4) f_week_days [.d (.tuple (bs.map bnD)), .d (.int w)] kd := by
  rw [callN_fn h]
  unfold b_week_days
  trivial
  refine ok_least h0 h1 bs hb hl ?_
  cases w3 : least bs with
  | none => rw [w3] at q; unfold optD; trivial; exact q
  | some k =>
    rw [w3] at q hne
    unfold optD
    trivial
    refine ⟨⟨by omega, by omega⟩, ?_⟩
    refine forL_rng (fun j d ρ => j ≤ w ∧ d = 0 + ((w - j : Nat) : Int) ∧ ∃ x3, ρ = [some (.d (.tuple (bs.map bnD))), some (.d (.int w)), some (.d (.list ((subsN 0 (w - j)).map rowD))), x3, none]) ?_ ?_ (n := w) (by omega) ⟨Nat.le_refl w, by omega, none, by rw [Nat.sub_self]; rfl⟩
    · rintro j d ρ k' ⟨hj, hd, x2, rfl⟩ hk'
      have hsz : (subsN 0 (w - (j + 1))).length ≤ 4096 := by
        rw [subsN_len]
        exact Nat.le_trans (Nat.pow_le_pow_right (by decide) (show w - (j + 1) ≤ 12 by omega)) (by decide)
      trivial
      refine lcl_map rowD (fun r => rowD (r ++ [d])) 4 rfl (by omega) (fun r hr c k2 hk => ?_) fun c => ?_
      · have hrl := subsN_mem_len hr
        rw [row_eq]
        trivial
        refine ⟨by rw [List.length_map]; omega, ?_⟩
        have := hk (some (.d (rowD r)))
        rw [row_eq, List.map_append] at this
        exact this
      · trivial
        refine ⟨by rw [List.length_map, List.length_map]; omega, hk' _ ⟨by omega, by omega, some (.d (.int d)), ?_⟩⟩
        rw [show w - j = w - (j + 1) + 1 by omega, subsN, List.map_append, List.map_map, hd]
        rfl
    · rintro d ρ ⟨_, hd, x2, rfl⟩
      have hsz : (subsN 0 w).length ≤ 4096 := by
        rw [subsN_len]
        exact Nat.le_trans (Nat.pow_le_pow_right (by decide) hw) (by decide)
      trivial
      rw [show w - 0 = w from rfl]
      refine lcl_filter rowD (fun r => nrD (r.length, r)) (fun r => weekB (some k) w (rowD r)) 4 rfl (by omega) (fun r hr c k2 hk => ?_) fun c => ?_
      · have hrl := subsN_mem_len hr
        have hk := hk (some (.d (rowD r)))
        trivial
        refine ok_do_week h0 h1 h2 h3 h4 (k := 1) bs hb hl w (rowD r) (fit_tints (by omega)) ?_
        rw [w3]
        cases w4 : weekB (some k) w (rowD r) with
        | false => rw [w4, if_neg (by simp)] at hk; trivial; exact hk
        | true =>
          rw [w4, if_pos rfl] at hk
          rw [row_eq] at hk ⊢
          trivial
          rw [List.length_map]
          exact hk
      · exact min_rows (hne (by simp)) q
end

theorem fit_flat {n : Nat} {d : D} (h : flat d = true) : fitD n d := by
  cases d <;> first | (cases h; done) | (cases n <;> simp only [fitD])
theorem fit_tup {n : Nat} {xs : List D} (h : xs.length ≤ 100000) (h2 : ∀ x ∈ xs, fitD n x) : fitD (n + 1) (.tuple xs) := by
  simp only [fitD]
  exact ⟨h, fitL_all.mp h2⟩
theorem okV_flat {n : Nat} {d : D} (h : flat d = true) : okV n d := ⟨fit_flat h, fun xs e => by rw [e] at h; cases h⟩
theorem okV_tup {n : Nat} {xs : List D} (h : xs.length ≤ 4000) (h2 : ∀ x ∈ xs, fitD n x) : okV (n + 1) (.tuple xs) := ⟨fit_tup (by omega) h2, fun ys e => by cases e; exact h⟩
theorem cutn {α : Type} {xs : List α} {i : Nat} : cutL xs (some ((i : Int) + 1)) none = xs.drop (i + 1) := by
  rw [show (i : Int) + 1 = ((i + 1 : Nat) : Int) by omega]
  exact cut_from xs (i + 1)
section
variable {G : Pg}
theorem ok_law_bent (hd : G.fns f__law_draw = none) {m : Nat} (h0 : G.k0 ≤ m) (hp : ∀ as kd, pDraw as kd → G.prim f__law_draw as kd) (h : G.fns f__law_bent = some ⟨b__law_bent, 4⟩) : ∀ (n : Nat) (v : D) (kd : D → Prop), smD n v → (∀ d, okV (n + 1) d → kd d) → callN G (m + n + 2) f__law_bent [.box, .d v] kd
  | n, v, kd, hv, q => by
    have draw := fun (j : Int) (kd : D → Prop) (h1 : 0 < j) (h2 : j.natAbs < 2 ^ 64) q => draw_at (G := G) (f := f__law_draw) (m := m + n) (n := j) (kd := kd) hd (Nat.le_trans h0 (Nat.le_add_right m n)) hp h1 h2 q
    rw [callN_fn h]
    unfold b__law_bent
    cases v with
    | tuple xs =>
      cases n with
      | zero => simp only [smD] at hv
      | succ n =>
      simp only [smD] at hv
      have hx := smL_all.mpr hv.2
      have hlen := hv.1
      have hf : ∀ x ∈ xs, fitD (n + 1) x := fun x h => fitD_up _ _ (sm_fit _ _ (hx x h))
      have F : ∀ k : Int, 0 ≤ k → k < 8 → (xs.length + (cutL xs none (some 1)).length ≤ 16777216 ∧
              xs.length ≤ 16777215 ∧
                (cutL xs none (some 1)).length + xs.length ≤ 16777216 ∧
                  ixD
                    (PyData.list
                      [PyData.tuple (xs ++ cutL xs none (some 1)), PyData.tuple (cutL xs (some 1) none),
                        PyData.tuple xs.reverse, PyData.tuple (xs ++ [PyData.int 0]),
                        PyData.tuple (cutL xs none (some 1) ++ xs), PyData.tuple (cutL xs none (some (-1))),
                        PyData.none, PyData.tuple (cutL xs none (some 1))])
                    (.int k) fun z => kd z) := by
        intro k k0 k8
        rw [cut_1, cut_t1, cut_m1]
        have l1 : (xs.take 1).length ≤ 1 := by rw [List.length_take]; omega
        have m1 : ∀ x ∈ xs.take 1, x ∈ xs := fun x h => List.mem_of_mem_take h
        refine ⟨by omega, by omega, by omega, ?_⟩
        have hk : k = 0 ∨ k = 1 ∨ k = 2 ∨ k = 3 ∨ k = 4 ∨ k = 5 ∨ k = 6 ∨ k = 7 := by omega
        rcases hk with rfl | rfl | rfl | rfl | rfl | rfl | rfl | rfl <;> trivial
        · exact q _ (okV_tup (by rw [List.length_append]; omega) fun x h => (List.mem_append.mp h).elim (hf x) fun h => hf x (m1 x h))
        · exact q _ (okV_tup (by rw [List.length_drop]; omega) fun x h => hf x (List.mem_of_mem_drop h))
        · exact q _ (okV_tup (by rw [List.length_reverse]; omega) fun x h => hf x (List.mem_reverse.mp h))
        · exact q _ (okV_tup (by rw [List.length_append, List.length_singleton]; omega) fun x h => (List.mem_append.mp h).elim (hf x) fun h => by rw [List.mem_singleton.mp h]; exact fit_flat rfl)
        · exact q _ (okV_tup (by rw [List.length_append]; omega) fun x h => (List.mem_append.mp h).elim (fun h => hf x (m1 x h)) (hf x))
        · exact q _ (okV_tup (by rw [List.length_dropLast]; omega) fun x h => hf x (List.dropLast_subset _ h))
        · exact q _ (okV_flat rfl)
        · exact q _ (okV_tup (by omega) fun x h => hf x (m1 x h))
      trivial
      cases w : decide (0 < (xs.length : Int)) with
      | false =>
        trivial
        exact draw 8 _ (by decide) (by decide) fun k k0 k8 => F k k0 k8
      | true =>
        trivial
        have hpos := of_decide_eq_true w
        refine draw 5 _ (by decide) (by decide) fun j j0 j5 => ?_
        trivial
        cases w2 : decide (0 < j) with
        | false =>
          trivial
          exact draw 8 _ (by decide) (by decide) fun k k0 k8 => F k k0 k8
        | true =>
          trivial
          refine draw xs.length _ (by omega) (by omega) fun i i0 il => ?_
          obtain ⟨i, rfl⟩ : ∃ k : Nat, i = k := ⟨i.toNat, by omega⟩
          trivial
          rw [at_nat, List.getElem?_eq_getElem (show i < xs.length by omega)]
          trivial
          have hm := List.getElem_mem (show i < xs.length by omega)
          refine ok_law_bent hd h0 hp h n _ _ (hx _ hm) fun d hd' => ?_
          rw [cut_to, cutn]
          refine ⟨by rw [List.length_take]; omega, by rw [List.length_append, List.length_take, List.length_singleton, List.length_drop]; omega, q _ (okV_tup (by rw [List.length_append, List.length_append, List.length_take, List.length_singleton, List.length_drop]; omega) fun x h => ?_)⟩
          rcases List.mem_append.mp h with h | h
          · rcases List.mem_append.mp h with h | h
            · exact hf x (List.mem_of_mem_take h)
            · rw [List.mem_singleton.mp h]; exact hd'.1
          · exact hf x (List.mem_of_mem_drop h)
    | int i =>
      have hv : i.natAbs < 2 ^ 60 := by cases n <;> simpa only [smD] using hv
      trivial
      refine draw 8 _ (by decide) (by decide) fun k k0 k8 => ?_
      trivial
      have hl : i.natAbs.log2 < 1920 := by
        by_cases z : i.natAbs = 0
        · rw [z]; decide
        · have := (Nat.log2_lt z).mpr hv; omega
      have hk : k = 0 ∨ k = 1 ∨ k = 2 ∨ k = 3 ∨ k = 4 ∨ k = 5 ∨ k = 6 ∨ k = 7 := by omega
      refine ⟨hl, ?_⟩
      rcases hk with rfl | rfl | rfl | rfl | rfl | rfl | rfl | rfl <;> trivial
      all_goals first
        | exact q _ (okV_flat rfl)
        | exact q _ (okV_tup (by simp) fun x h => by rw [List.mem_singleton.mp h]; exact fit_flat rfl)
    | str s => cases n <;> simp only [smD] at hv
    | list s => cases n <;> simp only [smD] at hv
    | dict s => cases n <;> simp only [smD] at hv
    | _ =>
      trivial
      refine draw 8 _ (by decide) (by decide) fun k k0 k8 => ?_
      trivial
      have hk : k = 0 ∨ k = 1 ∨ k = 2 ∨ k = 3 ∨ k = 4 ∨ k = 5 ∨ k = 6 ∨ k = 7 := by omega
      rcases hk with rfl | rfl | rfl | rfl | rfl | rfl | rfl | rfl <;> trivial
      all_goals first
        | exact q _ (okV_flat rfl)
        | exact q _ (okV_tup (by simp) fun x h => absurd h (by simp))
end

structure Fns57 (G : Pg) : Prop where
  lasts_for : G.fns f_lasts_for = some ⟨b_lasts_for, 1⟩
  least_lasting : G.fns f_least_lasting = some ⟨b_least_lasting, 3⟩
  fewest : G.fns f_fewest_bin_days = some ⟨b_fewest_bin_days, 6⟩
  ascending : G.fns f_is_ascending = some ⟨b_is_ascending, 2⟩
  number : G.fns f_is_number = some ⟨b_is_number, 3⟩
  do_week : G.fns f_do_week = some ⟨b_do_week, 7⟩
  week_days : G.fns f_week_days = some ⟨b_week_days, 5⟩
  bin_told : G.fns f_is_bin_told = some ⟨b_is_bin_told, 1⟩
  bins_told : G.fns f_are_bins_told = some ⟨b_are_bins_told, 2⟩
  same : G.fns f__law_same = some ⟨b__law_same, 3⟩
  subsets : G.fns f__law_subsets = some ⟨b__law_subsets, 4⟩
  never_full : G.fns f__law_never_full = some ⟨b__law_never_full, 6⟩
  whole : G.fns f__law_whole = some ⟨b__law_whole, 3⟩
  are_days : G.fns f__law_are_days = some ⟨b__law_are_days, 4⟩
  bent : G.fns f__law_bent = some ⟨b__law_bent, 4⟩
  turned : G.fns f__law_turned = some ⟨b__law_turned, 5⟩
  for_ever : G.fns f__law_for_ever = some ⟨b__law_for_ever, 5⟩
  do_days : G.fns f_do_days = some ⟨b_do_days, 7⟩
  shows : G.fns f_shows_days = some ⟨b_shows_days, 4⟩
  drw : G.fns f__law_draw = none
  pr : ∀ as kd, pDraw as kd → G.prim f__law_draw as kd
  c0 : G.cst 0 = some (.int 10)
  c1 : G.cst 1 = some (.int 60)
  c2 : G.cst 2 = some (.int 9)
  c3 : G.cst 3 = some (.int 60)
  c4 : G.cst 4 = some (.int 14)
theorem Fns57.draw {G : Pg} (H : Fns57 G) {n m : Nat} (h0 : G.k0 ≤ n) (hm : m = n + 10) (j : Int) (kd : D → Prop) (h1 : 0 < j) (h2 : j.natAbs < 2 ^ 64) (q : ∀ k : Int, 0 ≤ k → k < j → kd (.int k)) : callN G m f__law_draw [.box, .d (.int j)] kd := by
  subst hm
  exact draw_at H.drw (Nat.le_trans h0 (Nat.le_add_right n 9)) H.pr h1 h2 q
theorem rngL_len {a b : Int} : (rngL a b).length = (b - a).toNat := by unfold rngL; rw [List.length_map, List.length_range]
section
variable {G : Pg} {n : Nat} {K : Ends} {c2 c3 c4 c5 c6 c7 c8 c9 c10 c11 c12 c13 c14 c15 c16 c17 c18 c19 c20 c21 c22 c23 c24 c25 c26 c27 : Option Vl}
theorem t_bins (H : Fns57 G) (h0 : G.k0 ≤ n) (q : ∀ (bs : List (Int × Int)) (c4 c16 : Option Vl), (∀ b ∈ bs, okBin b) → 1 ≤ bs.length → bs.length ≤ 4 → K.nx [none, some .box, c2, some (.own (.list (bs.map bnD))), c4, c5, c6, c7, c8, c9, c10, c11, c12, c13, c14, c15, c16, c17, c18, c19, c20, c21, c22, c23, c24, c25, c26, c27]) : exec (ctx G (n + 10)) s_law_1 [none, some .box, c2, some (.own (.list [])), c4, c5, c6, c7, c8, c9, c10, c11, c12, c13, c14, c15, c16, c17, c18, c19, c20, c21, c22, c23, c24, c25, c26, c27] K := by
  unfold s_law_1 s_law_f0_0 s_law_f0_1
  trivial
  refine H.draw h0 rfl 4 _ (by decide) (by decide) fun k k0 k4 => ?_
  trivial
  refine ⟨⟨by omega, by omega⟩, ?_⟩
  refine forL_inv (fun i ρ => ∃ (bs : List (Int × Int)) (c4 c16 : Option Vl), bs.length = i ∧ (∀ b ∈ bs, okBin b) ∧ ρ = [none, some .box, c2, some (.own (.list (bs.map bnD))), c4, c5, c6, c7, c8, c9, c10, c11, c12, c13, c14, c15, c16, c17, c18, c19, c20, c21, c22, c23, c24, c25, c26, c27]) 0 ⟨[], _, _, rfl, (fun b h => by cases h), rfl⟩ ?_ ?_
  · rintro j x ρ k' hx ⟨bs, c4, c16, hl, hb, rfl⟩ hk
    have hj : j < 5 := by
      have := (List.getElem?_eq_some_iff.mp hx).1
      rw [rngL_len] at this
      omega
    trivial
    refine H.draw h0 rfl 5 _ (by decide) (by decide) fun r r0 r5 => ?_
    trivial
    refine H.draw h0 rfl 9 _ (by decide) (by decide) fun m m0 m9 => ?_
    trivial
    refine ⟨by rw [List.length_map]; omega, hk _ ⟨bs ++ [(r, if r + m > 1 then r + m else 1)], ?_, ?_, by rw [List.length_append, List.length_singleton]; omega, fun b h => ?hb, ?he⟩⟩
    case he => rw [List.map_append]; rfl
    · rcases List.mem_append.mp h with z | z
      · exact hb b z
      · rw [List.mem_singleton.mp z]; unfold okBin; simp only []; split <;> omega
  · rintro ρ ⟨bs, c4, c16, hl, hb, rfl⟩
    rw [rngL_len] at hl
    exact q bs _ _ hb (by omega) (by omega)
theorem t_most (H : Fns57 G) (h0 : G.k0 ≤ n) {bs : List (Int × Int)} (q : ∀ most : Nat, most < 10 → K.nx [none, some .box, c2, some (.d (.tuple (bs.map bnD))), c4, c5, c6, c7, c8, c9, c10, c11, c12, c13, c14, c15, c16, some (.d (.int most)), c18, c19, c20, c21, c22, c23, c24, c25, c26, c27]) : exec (ctx G (n + 10)) s_law_3 [none, some .box, c2, some (.d (.list (bs.map bnD))), c4, c5, c6, c7, c8, c9, c10, c11, c12, c13, c14, c15, c16, c17, c18, c19, c20, c21, c22, c23, c24, c25, c26, c27] K := by
  unfold s_law_3
  trivial
  refine H.draw h0 rfl 10 _ (by decide) (by decide) fun k k0 k4 => ?_
  obtain ⟨k, rfl⟩ : ∃ j : Nat, k = j := ⟨k.toNat, by omega⟩
  trivial
  exact q k (by omega)
theorem binTold_ok {b : Int × Int} (h : okBin b) : binToldB (bnD b) = true := by
  unfold okBin at h
  show (decide (0 ≤ b.1) && decide (b.1 ≤ 9) && (decide ((if b.1 > 1 then b.1 else 1) ≤ b.2) && decide (b.2 ≤ 60))) = true
  simp only [Bool.and_eq_true, decide_eq_true_eq]
  split <;> omega
theorem binsTold_ok {bs : List (Int × Int)} (hb : ∀ b ∈ bs, okBin b) (h1 : 1 ≤ bs.length) (h2 : bs.length ≤ 10) : binsToldB (.tuple (bs.map bnD)) = true := by
  show (decide (1 ≤ ((bs.map bnD).length : Int)) && (decide (((bs.map bnD).length : Int) ≤ 10) && (bs.map bnD).all binToldB)) = true
  rw [List.length_map, decide_eq_true (by omega), decide_eq_true (by omega), List.all_map]
  simp only [Bool.true_and, List.all_eq_true]
  exact fun b h => binTold_ok (hb b h)
theorem fit_bn {b : Int × Int} : fitD 1 (bnD b) := fit_tup (by simp) fun x h => by
  simp only [List.mem_cons, List.not_mem_nil, or_false] at h
  rcases h with rfl | rfl <;> exact fit_flat rfl
theorem fit_bins {bs : List (Int × Int)} (h : bs.length ≤ 100) : fitD 2 (.tuple (bs.map bnD)) := fit_tup (by rw [List.length_map]; omega) fun x h => by
  obtain ⟨b, _, rfl⟩ := List.mem_map.mp h
  exact fit_bn
theorem t_told (H : Fns57 G) {bs : List (Int × Int)} (hb : ∀ b ∈ bs, okBin b) (h1 : 1 ≤ bs.length) (h2 : bs.length ≤ 4) (q : K.nx [none, some .box, c2, some (.d (.tuple (bs.map bnD))), c4, c5, c6, c7, c8, c9, c10, c11, c12, c13, c14, c15, c16, c17, c18, c19, c20, c21, c22, c23, c24, c25, c26, c27]) : exec (ctx G (n + 10)) s_law_4 [none, some .box, c2, some (.d (.tuple (bs.map bnD))), c4, c5, c6, c7, c8, c9, c10, c11, c12, c13, c14, c15, c16, c17, c18, c19, c20, c21, c22, c23, c24, c25, c26, c27] K := by
  unfold s_law_4
  trivial
  refine ok_are_bins_told (n := n + 7) H.number H.bin_told H.bins_told H.c0 H.c1 H.c2 _ (fit_bins (by omega)) ?_
  rw [binsTold_ok hb h1 (by omega)]
  trivial
  exact q
def lastsL (b : Int × Int) : D := optD (lasts b)
theorem max_days {r m : Int} {kd : D → Prop} (h1 : 0 < r) (h2 : r ≤ m) (h3 : m ≤ 12) (q : kd (.int (m / r))) : biD .max [.list (((List.range 69).filter fun i : Nat => decide (r * (1 + (i : Int)) ≤ m)).map fun i : Nat => .int (1 + (i : Int)))] kd := by
  have d1 : 1 ≤ m / r := (Int.le_ediv_iff_mul_le h1).mpr (by omega)
  have d2 : m / r ≤ m := Int.ediv_le_self _ (by omega)
  have d3 : m / r * r ≤ m := Int.ediv_mul_le m (by omega)
  refine b_max_is (t := .int (m / r)) ?_ ?_ ?_ q
  · refine List.mem_map.mpr ⟨(m / r - 1).toNat, List.mem_filter.mpr ⟨List.mem_range.mpr (by omega), decide_eq_true ?_⟩, ?_⟩
    · rw [show (1 : Int) + ((m / r - 1).toNat : Int) = m / r by omega, Int.mul_comm]; exact d3
    · rw [show (1 : Int) + ((m / r - 1).toNat : Int) = m / r by omega]
  · intro x hx
    obtain ⟨i, hi, rfl⟩ := List.mem_map.mp hx
    have hi := of_decide_eq_true (List.mem_filter.mp hi).2
    have : 1 + (i : Int) ≤ m / r := (Int.le_ediv_iff_mul_le h1).mpr (by rw [Int.mul_comm]; exact hi)
    by_cases e : 1 + (i : Int) = m / r
    · exact .inl (by rw [e])
    · exact .inr (by rw [dataLt_int]; exact decide_eq_true (by omega))
  · have := allLt_ints (xs := ((List.range 69).filter fun i : Nat => decide (r * (1 + (i : Int)) ≤ m)).map fun i : Nat => 1 + (i : Int))
    rw [List.map_map] at this
    exact this
theorem t_lasting (H : Fns57 G) {bs : List (Int × Int)} (hb : ∀ b ∈ bs, okBin b) (h2 : bs.length ≤ 4) (q : ∀ c16 c18 c19 c26 : Option Vl, K.nx [none, some .box, c2, some (.d (.tuple (bs.map bnD))), c4, some (.own (.list (bs.map lastsL))), c6, c7, c8, c9, c10, c11, c12, c13, c14, c15, c16, c17, c18, c19, c20, c21, c22, c23, c24, c25, c26, c27]) : exec (ctx G (n + 10)) s_law_6 [none, some .box, c2, some (.d (.tuple (bs.map bnD))), c4, some (.own (.list [])), c6, c7, c8, c9, c10, c11, c12, c13, c14, c15, c16, c17, c18, c19, c20, c21, c22, c23, c24, c25, c26, c27] K := by
  unfold s_law_6 s_law_f1_0 s_law_f1_1
  trivial
  refine forL_left bnD (fun (l : List (Int × Int)) ρ => ∃ (pre : List (Int × Int)) (c16 c18 c19 c26 : Option Vl), pre ++ l = bs ∧ ρ = [none, some .box, c2, some (.d (.tuple (bs.map bnD))), c4, some (.own (.list (pre.map lastsL))), c6, c7, c8, c9, c10, c11, c12, c13, c14, c15, c16, c17, c18, c19, c20, c21, c22, c23, c24, c25, c26, c27]) ?_ ?_ ⟨[], _, _, _, _, rfl, rfl⟩
  · rintro b l ρ k' ⟨pre, c16, c18, c19, c26, e, rfl⟩ hk
    have hbb := hb b (by rw [← e]; simp)
    have hlen : pre.length ≤ 4 := by rw [← e] at h2; simp at h2; omega
    unfold okBin at hbb
    rw [show bnD b = .tuple [.int b.1, .int b.2] from rfl]
    trivial
    refine ⟨1, 70, rfl, rfl, by decide, ?_⟩
    refine lcl_filter (as := List.range 69) (fun i : Nat => .int (1 + (i : Int))) (fun i : Nat => .int (1 + (i : Int))) (fun i : Nat => decide (b.1 * (1 + (i : Int)) ≤ b.2)) 26 rfl (by decide) (fun i hi c k2 hk => ?_) fun c => ?_
    · have hk := hk (some (.d (.int (1 + (i : Int)))))
      trivial
      refine ⟨mulL (by omega), ?_⟩
      cases w : decide (b.1 * (1 + (i : Int)) ≤ b.2) with
      | true => simp only [w, if_true] at hk; trivial; exact hk
      | false => simp only [w, Bool.false_eq_true, if_false] at hk; trivial; exact hk
    · trivial
      by_cases hr : b.1 = 0
      · rw [decide_eq_false (by omega)]
        trivial
        refine ⟨by rw [List.length_map]; omega, hk _ ⟨pre ++ [b], ?_, ?_, ?_, ?_, by rw [List.append_assoc]; exact e, ?he⟩⟩
        case he => rw [List.map_append, List.map_cons, List.map_nil, show lastsL b = .none by unfold lastsL lasts; rw [if_pos hr]; rfl]
      · rw [decide_eq_true (by omega)]
        trivial
        refine max_days (by omega) hbb.2.2.2.1 hbb.2.2.2.2 ?_
        trivial
        refine ⟨by rw [List.length_map]; omega, hk _ ⟨pre ++ [b], ?_, ?_, ?_, ?_, by rw [List.append_assoc]; exact e, ?he⟩⟩
        case he => rw [List.map_append, List.map_cons, List.map_nil, show lastsL b = .int (b.2 / b.1) by unfold lastsL lasts; rw [if_neg hr]; rfl]
  · rintro ρ ⟨pre, c16, c18, c19, c26, e, rfl⟩
    rw [List.append_nil] at e
    subst e
    exact q _ _ _ _
theorem any_lasts : ∀ {bs : List (Int × Int)}, (∀ b ∈ bs, okBin b) → ((bs.map lastsL).any PyData.truthy) = !isNil (lows bs)
  | [], _ => rfl
  | b :: bs, hb => by
    have ih := any_lasts (bs := bs) fun c hc => hb c (List.mem_cons_of_mem _ hc)
    have hbb := hb b List.mem_cons_self
    rw [List.map_cons, List.any_cons, ih]
    unfold lows
    rw [List.filter_cons]
    by_cases hr : b.1 = 0
    · rw [if_neg (by simp [hr]), show lastsL b = .none by unfold lastsL lasts; rw [if_pos hr]; rfl]
      rfl
    · have hp := lasts_pos hbb (k := b.2 / b.1) (by unfold lasts; rw [if_neg hr])
      rw [if_pos (by simp [hr]), show lastsL b = .int (b.2 / b.1) by unfold lastsL lasts; rw [if_neg hr]; rfl]
      have : PyData.truthy (.int (b.2 / b.1)) = true := by
        show (b.2 / b.1 != 0) = true
        simp; omega
      rw [this]
      rfl
theorem t_least {bs : List (Int × Int)} (hb : ∀ b ∈ bs, okBin b) (h2 : bs.length ≤ 4) (q : ∀ c22 : Option Vl, K.nx [none, some .box, c2, c3, c4, some (.d (.list (bs.map lastsL))), some (.d (optD (least bs))), c7, c8, c9, c10, c11, c12, c13, c14, c15, c16, c17, c18, c19, c20, c21, c22, c23, c24, c25, c26, c27]) : exec (ctx G (n + 10)) s_law_8 [none, some .box, c2, c3, c4, some (.d (.list (bs.map lastsL))), c6, c7, c8, c9, c10, c11, c12, c13, c14, c15, c16, c17, c18, c19, c20, c21, c22, c23, c24, c25, c26, c27] K := by
  unfold s_law_8
  trivial
  refine ⟨fun y hy => ?_, ?_⟩
  · obtain ⟨b, _, rfl⟩ := List.mem_map.mp hy
    unfold lastsL
    cases lasts b <;> simp [optD, PyData.fits63]
  · rw [any_lasts hb]
    unfold least at q
    cases w : lows bs with
    | nil =>
      rw [w] at q
      rw [show (!isNil ([] : List Int)) = false from rfl]
      trivial
      exact q _
    | cons x xs =>
      rw [w] at q
      rw [show (!isNil (x :: xs)) = true from rfl]
      trivial
      refine lcl_filter lastsL (fun b => .int (b.2 / b.1)) (fun b => b.1 != 0) 22 rfl (by omega) (fun b hb' c k2 hk => ?_) fun c => ?_
      · have hk := hk (some (.d (lastsL b)))
        trivial
        by_cases hr : b.1 = 0
        · rw [if_neg (by simp [hr])] at hk
          rw [show lastsL b = .none by unfold lastsL lasts; rw [if_pos hr]; rfl] at hk ⊢
          trivial
          exact hk
        · rw [if_pos (by simp [hr])] at hk
          rw [show lastsL b = .int (b.2 / b.1) by unfold lastsL lasts; rw [if_neg hr]; rfl] at hk ⊢
          trivial
          exact hk
      · rw [show (List.filter (fun b : Int × Int => b.fst != 0) bs).map (fun b => PyData.int (b.2 / b.1)) = (lows bs).map .int by unfold lows; rw [List.map_map]; rfl, w]
        refine b_min_ints ?_
        trivial
        exact q _
theorem t_same1 (H : Fns57 G) {bs : List (Int × Int)} (hb : ∀ b ∈ bs, okBin b) (h2 : bs.length ≤ 4) (q : ∀ c22 : Option Vl, K.nx [none, some .box, c2, some (.d (.tuple (bs.map bnD))), c4, some (.d (.list (bs.map lastsL))), some (.d (optD (least bs))), c7, c8, c9, c10, c11, c12, c13, c14, c15, c16, c17, c18, c19, c20, c21, c22, c23, c24, c25, c26, c27]) : exec (ctx G (n + 10)) s_law_9 [none, some .box, c2, some (.d (.tuple (bs.map bnD))), c4, some (.d (.list (bs.map lastsL))), some (.d (optD (least bs))), c7, c8, c9, c10, c11, c12, c13, c14, c15, c16, c17, c18, c19, c20, c21, c22, c23, c24, c25, c26, c27] K := by
  unfold s_law_9
  trivial
  refine lcl_map bnD lastsL 22 rfl (by omega) (fun b hb' c k2 hk => ?_) fun c => ?_
  · trivial
    refine ok_lasts_for (n := n + 9) H.lasts_for b (hb b hb') ?_
    exact hk (some (.d (bnD b)))
  · trivial
    refine ok_least (n := n + 8) H.lasts_for H.least_lasting bs hb (by omega) ?_
    trivial
    refine same_eq (n := 3) (m := n + 6) H.same rfl (fit_tup (by simp) fun x hx => ?_) ?_
    · simp only [List.mem_cons, List.not_mem_nil, or_false] at hx
      rcases hx with rfl | rfl
      · simp only [fitD]
        refine ⟨by rw [List.length_map]; omega, fitL_all.mp fun y hy => ?_⟩
        obtain ⟨b, _, rfl⟩ := List.mem_map.mp hy
        unfold lastsL
        cases lasts b <;> exact fit_flat rfl
      · cases least bs <;> exact fit_flat rfl
    · trivial
      exact q _
end

/-! ### what the law finds -/
theorem least_pos {bs : List (Int × Int)} (hb : ∀ b ∈ bs, okBin b) {k : Int} (h : least bs = some k) : 1 ≤ k ∧ k ≤ 12 := by
  unfold least at h
  cases w : lows bs with
  | nil => rw [w] at h; cases h
  | cons x xs =>
    rw [w] at h
    cases h
    have m := foldl_min_mem xs x
    rw [← w] at m
    unfold lows at m
    obtain ⟨b, hm, e⟩ := List.mem_map.mp m
    have hm := List.mem_filter.mp hm
    have := lasts_pos (hb b hm.1) (k := b.2 / b.1) (by unfold lasts; rw [if_neg (by simpa using hm.2)])
    rw [← e]
    exact this
theorem over_some {bs : List (Int × Int)} (hb : ∀ b ∈ bs, okBin b) {k : Int} (h : least bs = some k) : ∀ c, 0 ≤ c → (over bs c = true ↔ k < c) := by
  intro c hc
  unfold least at h
  have hl : ∀ b ∈ bs, (b.2 < b.1 * c ↔ b.1 ≠ 0 ∧ b.2 / b.1 < c) := by
    intro b hbm
    have hbb := hb b hbm
    unfold okBin at hbb
    by_cases q : b.1 = 0
    · rw [q, Int.zero_mul]
      constructor
      · intro h; omega
      · intro h; exact absurd rfl h.1
    · rw [Int.ediv_lt_iff_lt_mul (by omega), Int.mul_comm]
      exact ⟨fun h => ⟨q, h⟩, fun h => h.2⟩
  cases w : lows bs with
  | nil => rw [w] at h; cases h
  | cons x xs =>
    rw [w] at h
    cases h
    unfold over
    rw [List.any_eq_true]
    constructor
    · rintro ⟨b, hm, hd⟩
      have := (hl b hm).mp (of_decide_eq_true hd)
      have hin : b.2 / b.1 ∈ x :: xs := by
        rw [← w]
        exact List.mem_map.mpr ⟨b, List.mem_filter.mpr ⟨hm, by simpa using this.1⟩, rfl⟩
      have := foldl_min_le xs x _ hin
      omega
    · intro hlt
      have m := foldl_min_mem xs x
      rw [← w] at m
      obtain ⟨b, hm, e⟩ := List.mem_map.mp m
      have hm := List.mem_filter.mp hm
      exact ⟨b, hm.1, decide_eq_true ((hl b hm.1).mpr ⟨by simpa using hm.2, by omega⟩)⟩
theorem over_none {bs : List (Int × Int)} (hb : ∀ b ∈ bs, okBin b) (h : least bs = none) : ∀ c, over bs c = false := by
  intro c
  unfold least at h
  cases w : lows bs with
  | cons x xs => rw [w] at h; cases h
  | nil =>
    unfold over
    rw [List.any_eq_false]
    intro b hm
    have hbb := hb b hm
    unfold okBin at hbb
    have : b.1 = 0 := by
      apply Classical.byContradiction
      intro q
      have : b.2 / b.1 ∈ lows bs := List.mem_map.mpr ⟨b, List.mem_filter.mpr ⟨hm, by simpa using q⟩, rfl⟩
      rw [w] at this
      cases this
    rw [this, Int.zero_mul]
    simp
    omega
theorem memD_ints {r : List Int} (x : Int) : memD (r.map .int) x = true ↔ x ∈ r := by
  unfold memD
  rw [List.any_map, List.any_eq_true]
  constructor
  · rintro ⟨y, hy, e⟩
    have : y = x := by simpa [PyData.eqv] using e
    rw [← this]; exact hy
  · intro h
    exact ⟨x, h, by simp [PyData.eqv]⟩
/-- no bin is ever more than full exactly if no gap is too long -/
theorem nf_gaps {bs : List (Int × Int)} (hb : ∀ b ∈ bs, okBin b) {r : List Int} {T : Nat} (ha : Asc 0 r) (hT : ∀ x ∈ r, x ≤ T) : nf (over bs) (memD (r.map .int)) T 1 0 = gapsB (least bs) 0 r T := by
  cases w : least bs with
  | none => rw [gaps_none]; exact nf_none (over_none hb w) _ _ _
  | some k =>
    rw [gaps_some]
    have := nf_chain (T := T) (k := k) (by have := least_pos hb w; omega) (over_some hb w) ha hT (fun x => memD_ints x)
    rw [Bool.eq_iff_iff, this, decide_eq_true_iff]
def fewD (bs : List (Int × Int)) (T : Nat) : List Int := match least bs with
  | none => []
  | some k => greedy k T 0 (many k T)
theorem few_ok {bs : List (Int × Int)} (hb : ∀ b ∈ bs, okBin b) (T : Nat) : Asc 0 (fewD bs T) ∧ (∀ x ∈ fewD bs T, x ≤ (T : Int)) ∧ gapsB (least bs) 0 (fewD bs T) T = true ∧ (fewD bs T).length ≤ T := by
  unfold fewD
  cases w : least bs with
  | none => exact ⟨True.intro, by simp, rfl, by simp⟩
  | some k =>
    have hk := least_pos hb w
    have hm := many_le (k := k) (T := T) hk.1 (by omega)
    have := greedy_chain (T := T) hk.1 hm.1 hm.2
    refine ⟨this.2.1, fun x hx => ?_, ?_, ?_⟩
    · have := this.2.2 x hx; omega
    · rw [gaps_some]; exact decide_eq_true this.1
    · rw [greedy_len]; omega
theorem lex_lt : ∀ {a b : List Int}, lexLt a b = true → a < b
  | [], [], h => by cases h
  | [], y :: ys, _ => by simp
  | x :: xs, [], h => by cases h
  | x :: xs, y :: ys, h => by
    rw [lexLt] at h
    rw [List.cons_lt_cons_iff]
    by_cases q : x = y
    · rw [if_pos q] at h; exact .inr ⟨q, lex_lt h⟩
    · rw [if_neg q] at h; exact .inl (of_decide_eq_true h)
def goodL (bs : List (Int × Int)) (T : Nat) : List (List Int) := (subsN 1 T).filter fun r => nf (over bs) (memD (r.map .int)) T 1 0
theorem mem_good {bs : List (Int × Int)} (hb : ∀ b ∈ bs, okBin b) {T : Nat} {r : List Int} : r ∈ goodL bs T ↔ Asc 0 r ∧ (∀ x ∈ r, x ≤ (T : Int)) ∧ gapsB (least bs) 0 r T = true := by
  unfold goodL
  rw [List.mem_filter, mem_subsN]
  constructor
  · rintro ⟨⟨h1, h2⟩, h3⟩
    have h2 : ∀ x ∈ r, x ≤ (T : Int) := fun x hx => by have := h2 x hx; omega
    rw [nf_gaps hb h1 h2] at h3
    exact ⟨h1, h2, h3⟩
  · rintro ⟨h1, h2, h3⟩
    rw [nf_gaps hb h1 h2]
    exact ⟨⟨h1, fun x hx => by have := h2 x hx; omega⟩, h3⟩
theorem few_good {bs : List (Int × Int)} (hb : ∀ b ∈ bs, okBin b) (T : Nat) : fewD bs T ∈ goodL bs T :=
  have := few_ok hb T
  (mem_good hb).mpr ⟨this.1, this.2.1, this.2.2.1⟩
theorem min_good {bs : List (Int × Int)} (hb : ∀ b ∈ bs, okBin b) (T : Nat) : minR (goodL bs T) = rowD (fewD bs T) := by
  refine minR_is (few_good hb T) fun r hr => ?_
  obtain ⟨h1, h2, h3⟩ := (mem_good hb).mp hr
  unfold fewD
  cases w : least bs with
  | none =>
    simp only []
    cases r with
    | nil => exact .inl rfl
    | cons x r => exact .inr (.inl (by simp))
  | some k =>
    simp only []
    rw [w, gaps_some] at h3
    rcases greedy_first (least_pos hb w).1 (show (0 : Int) ≤ T by omega) (of_decide_eq_true h3) h1 with e | e
    · exact .inl e.symm
    · unfold lenLex at e
      by_cases q : ((greedy k T 0 (many k T)).length : Int) = r.length
      · rw [if_pos q] at e
        exact .inr (.inr ⟨by omega, lex_lt e⟩)
      · rw [if_neg q] at e
        have := of_decide_eq_true e
        exact .inr (.inl (by omega))
theorem few_len {bs : List (Int × Int)} (hb : ∀ b ∈ bs, okBin b) {k : Int} (h : least bs = some k) (T : Nat) : ((fewD bs T).length : Int) = mx0 T / k := by
  unfold fewD
  rw [h]
  simp only []
  rw [greedy_len]
  have hk := least_pos hb h
  unfold many mx0
  by_cases q : (T : Int) = 0
  · rw [if_pos q, if_neg (by omega)]; simp
  · rw [if_neg q]
    by_cases q2 : (T : Int) - 1 > 0
    · rw [if_pos q2, Int.toNat_of_nonneg (Int.ediv_nonneg (by omega) (by omega))]
    · rw [if_neg q2, show (T : Int) - 1 = 0 by omega]; simp
theorem asc_areDays {lo hi : Int} {r : List Int} (ha : Asc (lo - 1) r) (h : ∀ x ∈ r, x ≤ hi) : areDays lo hi (rowD r) = true := by
  show ((r.map PyData.int).all (isNum lo hi) && ascB ((r.map PyData.int).map toI)) = true
  rw [List.map_map, show toI ∘ PyData.int = id from rfl, List.map_id, List.all_map, Bool.and_eq_true, List.all_eq_true]
  refine ⟨fun x hx => ?_, ?_⟩
  · have := asc_lt ha x hx
    have := h x hx
    show (decide (lo ≤ x) && decide (x ≤ hi)) = true
    rw [Bool.and_eq_true]
    exact ⟨decide_eq_true (by omega), decide_eq_true (by omega)⟩
  · cases r with
    | nil => rfl
    | cons x r => exact ascB_iff.mpr ha.2

section
variable {G : Pg} {n : Nat} {K : Ends} {c2 c3 c4 c5 c6 c7 c8 c9 c10 c11 c12 c13 c14 c15 c16 c17 c18 c19 c20 c21 c22 c23 c24 c25 c26 c27 : Option Vl}
theorem goodL_len {bs : List (Int × Int)} {T : Nat} (h : T ≤ 12) : (goodL bs T).length ≤ 4096 := by
  refine Nat.le_trans (List.length_filter_le _ _) ?_
  rw [subsN_len]
  exact Nat.le_trans (Nat.pow_le_pow_right (by decide) h) (by decide)
theorem goodL_mem_len {bs : List (Int × Int)} {T : Nat} {r : List Int} (h : r ∈ goodL bs T) : r.length ≤ T := subsN_mem_len (List.mem_filter.mp h).1
theorem t_good (H : Fns57 G) {bs : List (Int × Int)} (h2 : bs.length ≤ 4) {most : Nat} (hm : most < 10) (q : ∀ c24 : Option Vl, K.nx [none, some .box, c2, some (.d (.tuple (bs.map bnD))), c4, c5, c6, some (.d (.list ((goodL bs most).map rowD))), c8, c9, c10, c11, c12, c13, c14, c15, c16, some (.d (.int most)), c18, c19, c20, c21, c22, c23, c24, c25, c26, c27]) : exec (ctx G (n + 10)) s_law_10 [none, some .box, c2, some (.d (.tuple (bs.map bnD))), c4, c5, c6, c7, c8, c9, c10, c11, c12, c13, c14, c15, c16, some (.d (.int most)), c18, c19, c20, c21, c22, c23, c24, c25, c26, c27] K := by
  unfold s_law_10
  trivial
  refine ⟨1, (most : Int) + 1, rfl, rfl, by omega, ?_⟩
  refine ⟨by rw [rngL_len]; omega, ?_⟩
  rw [show (most : Int) + 1 = 1 + (most : Int) by omega]
  refine ok_law_subsets (n := n + 9) H.subsets 1 most (by omega) ?_
  trivial
  refine lcl_filter rowD rowD (fun r => nf (over bs) (memD (r.map .int)) most 1 0) 24 rfl (by rw [subsN_len]; exact Nat.le_trans (Nat.pow_le_pow_right (by decide) (show most ≤ 12 by omega)) (by decide)) (fun r hr c k2 hk => ?_) fun c => ?_
  · have hk := hk (some (.d (rowD r)))
    trivial
    refine ok_never_full (n := n + 9) H.never_full bs (by omega) most (by omega) (rowD r) (r.map .int) rfl ?_
    cases w : nf (over bs) (memD (r.map .int)) most 1 0 with
    | true => simp only [w, if_true] at hk; trivial; exact hk
    | false => simp only [w, Bool.false_eq_true, if_false] at hk; trivial; exact hk
  · exact q _
theorem t_few {bs : List (Int × Int)} (hb : ∀ b ∈ bs, okBin b) {most : Nat} (hm : most < 10) (q : ∀ c24 : Option Vl, K.nx [none, some .box, c2, c3, c4, c5, c6, some (.d (.list ((goodL bs most).map rowD))), some (.d (rowD (fewD bs most))), c9, c10, c11, c12, c13, c14, c15, c16, c17, c18, c19, c20, c21, c22, c23, c24, c25, c26, c27]) : exec (ctx G (n + 10)) s_law_11 [none, some .box, c2, c3, c4, c5, c6, some (.d (.list ((goodL bs most).map rowD))), c8, c9, c10, c11, c12, c13, c14, c15, c16, c17, c18, c19, c20, c21, c22, c23, c24, c25, c26, c27] K := by
  unfold s_law_11
  trivial
  have hl := goodL_len (bs := bs) (show most ≤ 12 by omega)
  refine lcl_map rowD (fun r => nrD (r.length, r)) 24 rfl (by omega) (fun r hr c k2 hk => ?_) fun c => ?_
  · have hk := hk (some (.d (rowD r)))
    rw [row_eq] at hk ⊢
    trivial
    rw [List.length_map]
    exact hk
  · refine min_rows (fun e => by have := few_good hb most; rw [e] at this; cases this) ?_
    trivial
    rw [min_good hb]
    exact q _
theorem opt_or {o : Option Int} {k : Bool → Prop} : isD (optD o) .none k = k o.isNone := by cases o <;> rfl
theorem t_check1 (H : Fns57 G) {bs : List (Int × Int)} (hb : ∀ b ∈ bs, okBin b) (h2 : bs.length ≤ 4) {most : Nat} (hm : most < 10) (q : K.nx [none, some .box, c2, some (.d (.tuple (bs.map bnD))), c4, c5, some (.d (optD (least bs))), c7, some (.d (rowD (fewD bs most))), c9, c10, c11, c12, c13, c14, c15, c16, some (.d (.int most)), c18, c19, c20, c21, c22, c23, c24, c25, c26, c27]) : exec (ctx G (n + 10)) s_law_12 [none, some .box, c2, some (.d (.tuple (bs.map bnD))), c4, c5, some (.d (optD (least bs))), c7, some (.d (rowD (fewD bs most))), c9, c10, c11, c12, c13, c14, c15, c16, some (.d (.int most)), c18, c19, c20, c21, c22, c23, c24, c25, c26, c27] K := by
  unfold s_law_12
  trivial
  refine ok_fewest (n := n + 7) H.lasts_for H.least_lasting H.fewest bs hb (by omega) most (by omega) (fun k hk => by have := least_pos hb hk; omega) ?_
  trivial
  have hfl := (few_ok hb most).2.2.2
  refine same_eq (n := 1) (m := n + 8) H.same rfl (fit_tints (by show (fewD bs most).length ≤ _; omega)) ?_
  trivial
  cases w : least bs with
  | none => rw [w] at q; unfold optD at q ⊢; trivial; exact q
  | some k =>
    have hk := least_pos hb w
    rw [w] at q
    unfold optD at q ⊢
    rw [row_eq] at q ⊢
    trivial
    refine ⟨divW (by omega) (by omega), ?_⟩
    rw [List.length_map, few_len hb w, show (if (most : Int) - 1 > 0 then (most : Int) - 1 else 0) = mx0 most from rfl]
    rw [decide_eq_true rfl]
    trivial
    exact q
theorem t_long (H : Fns57 G) (h0 : G.k0 ≤ n) (q : ∀ T : Nat, T < 61 → K.nx [none, some .box, c2, c3, c4, c5, c6, c7, c8, some (.d (.int T)), c10, c11, c12, c13, c14, c15, c16, c17, c18, c19, c20, c21, c22, c23, c24, c25, c26, c27]) : exec (ctx G (n + 10)) s_law_13 [none, some .box, c2, c3, c4, c5, c6, c7, c8, c9, c10, c11, c12, c13, c14, c15, c16, c17, c18, c19, c20, c21, c22, c23, c24, c25, c26, c27] K := by
  unfold s_law_13
  trivial
  refine H.draw h0 rfl 61 _ (by decide) (by decide) fun k k0 k4 => ?_
  obtain ⟨k, rfl⟩ : ∃ j : Nat, k = j := ⟨k.toNat, by omega⟩
  trivial
  exact q k (by omega)
theorem t_days (H : Fns57 G) {bs : List (Int × Int)} (hb : ∀ b ∈ bs, okBin b) (h2 : bs.length ≤ 4) {T : Nat} (hT : T < 61) (q : K.nx [none, some .box, c2, some (.d (.tuple (bs.map bnD))), c4, c5, c6, c7, c8, some (.d (.int T)), some (.d (rowD (fewD bs T))), c11, c12, c13, c14, c15, c16, c17, c18, c19, c20, c21, c22, c23, c24, c25, c26, c27]) : exec (ctx G (n + 10)) s_law_14 [none, some .box, c2, some (.d (.tuple (bs.map bnD))), c4, c5, c6, c7, c8, some (.d (.int T)), c10, c11, c12, c13, c14, c15, c16, c17, c18, c19, c20, c21, c22, c23, c24, c25, c26, c27] K := by
  unfold s_law_14
  trivial
  refine ok_fewest (n := n + 7) H.lasts_for H.least_lasting H.fewest bs hb (by omega) T (by omega) (fun k hk => by have := least_pos hb hk; omega) ?_
  trivial
  exact q
theorem row_okV {n : Nat} {r : List Int} (h : r.length ≤ 4000) : okV (n + 1) (rowD r) := okV_tup (by rw [List.length_map]; exact h) fun x hx => by
  obtain ⟨a, _, rfl⟩ := List.mem_map.mp hx
  exact fit_flat rfl
theorem t_check2 (H : Fns57 G) {bs : List (Int × Int)} (hb : ∀ b ∈ bs, okBin b) (h2 : bs.length ≤ 4) {T : Nat} (hT : T < 61) (q : K.nx [none, some .box, c2, some (.d (.tuple (bs.map bnD))), c4, c5, some (.d (optD (least bs))), c7, c8, some (.d (.int T)), some (.d (rowD (fewD bs T))), c11, c12, c13, c14, c15, c16, c17, c18, c19, c20, c21, c22, c23, c24, c25, c26, c27]) : exec (ctx G (n + 10)) s_law_15 [none, some .box, c2, some (.d (.tuple (bs.map bnD))), c4, c5, some (.d (optD (least bs))), c7, c8, some (.d (.int T)), some (.d (rowD (fewD bs T))), c11, c12, c13, c14, c15, c16, c17, c18, c19, c20, c21, c22, c23, c24, c25, c26, c27] K := by
  unfold s_law_15
  trivial
  have ⟨f1, f2, f3, f4⟩ := few_ok hb T
  have ok := row_okV (n := 0) (r := fewD bs T) (by omega)
  refine ok_are_days (n := n + 8) H.whole H.are_days 1 T _ ok.1 ok.2 ?_
  rw [asc_areDays f1 f2]
  trivial
  refine ok_never_full (n := n + 9) H.never_full bs (by omega) T (by omega) (rowD (fewD bs T)) _ rfl ?_
  rw [nf_gaps hb f1 f2, f3]
  trivial
  cases w : least bs with
  | none => rw [w] at q; unfold optD at q ⊢; trivial; exact q
  | some k =>
    have hk := least_pos hb w
    rw [w] at q
    unfold optD at q ⊢
    rw [row_eq] at q ⊢
    trivial
    refine ⟨divW (by omega) (by omega), ?_⟩
    rw [List.length_map, few_len hb w, show (if (T : Int) - 1 > 0 then (T : Int) - 1 else 0) = mx0 T from rfl]
    rw [decide_eq_true rfl]
    trivial
    exact q
theorem t_some (H : Fns57 G) (h0 : G.k0 ≤ n) {rows : List (List Int)} (h1 : rows ≠ []) (h2 : rows.length ≤ 4096) (q : ∀ r ∈ rows, K.nx [none, some .box, c2, c3, c4, c5, c6, some (.d (.list (rows.map rowD))), c8, c9, c10, some (.d (rowD r)), c12, c13, c14, c15, c16, c17, c18, c19, c20, c21, c22, c23, c24, c25, c26, c27]) : exec (ctx G (n + 10)) s_law_16 [none, some .box, c2, c3, c4, c5, c6, some (.d (.list (rows.map rowD))), c8, c9, c10, c11, c12, c13, c14, c15, c16, c17, c18, c19, c20, c21, c22, c23, c24, c25, c26, c27] K := by
  unfold s_law_16
  trivial
  have hp : 0 < rows.length := List.length_pos_iff.mpr h1
  rw [List.length_map]
  refine H.draw h0 rfl rows.length _ (by omega) (by omega) fun k k0 k4 => ?_
  obtain ⟨k, rfl⟩ : ∃ j : Nat, k = j := ⟨k.toNat, by omega⟩
  trivial
  rw [at_nat, List.getElem?_map, List.getElem?_eq_getElem (show k < rows.length by omega)]
  trivial
  exact q _ (List.getElem_mem _)
theorem t_some2 (H : Fns57 G) (h0 : G.k0 ≤ n) {rows : List (List Int)} (h1 : rows ≠ []) (h2 : rows.length ≤ 4096) (q : ∀ r ∈ rows, K.nx [none, some .box, c2, c3, c4, c5, c6, c7, c8, c9, c10, some (.d (rowD r)), c12, c13, some (.d (.list (rows.map rowD))), c15, c16, c17, c18, c19, c20, c21, c22, c23, c24, c25, c26, c27]) : exec (ctx G (n + 10)) s_law_22 [none, some .box, c2, c3, c4, c5, c6, c7, c8, c9, c10, c11, c12, c13, some (.d (.list (rows.map rowD))), c15, c16, c17, c18, c19, c20, c21, c22, c23, c24, c25, c26, c27] K := by
  unfold s_law_22
  trivial
  have hp : 0 < rows.length := List.length_pos_iff.mpr h1
  rw [List.length_map]
  refine H.draw h0 rfl rows.length _ (by omega) (by omega) fun k k0 k4 => ?_
  obtain ⟨k, rfl⟩ : ∃ j : Nat, k = j := ⟨k.toNat, by omega⟩
  trivial
  rw [at_nat, List.getElem?_map, List.getElem?_eq_getElem (show k < rows.length by omega)]
  trivial
  exact q _ (List.getElem_mem _)
/-- what a value does, as the law has it -/
def doesB (bs : List (Int × Int)) (T : Nat) (v : D) : Bool := areDays 1 T v && match v with
  | .tuple xs => nf (over bs) (memD xs) T 1 0
  | _ => false
theorem does_eq {bs : List (Int × Int)} (hb : ∀ b ∈ bs, okBin b) (T : Nat) (v : D) : doesB bs T v = doB (least bs) T v := by
  cases v with
  | tuple xs =>
    show (xs.all (isNum 1 T) && ascB (xs.map toI) && nf (over bs) (memD xs) T 1 0) = (xs.all (isNum 1 T) && (ascB (xs.map toI) && gapsB (least bs) 0 (xs.map toI) T))
    cases w : xs.all (isNum 1 T) with
    | false => rfl
    | true =>
      rw [Bool.true_and, Bool.true_and]
      obtain ⟨e, hbd⟩ := ints_of w
      generalize xs.map toI = ns at e hbd
      subst e
      cases w2 : ascB ns with
      | false => rfl
      | true =>
        rw [Bool.true_and, Bool.true_and]
        refine nf_gaps hb ?_ fun x hx => (hbd x hx).2
        cases ns with
        | nil => exact True.intro
        | cons x r => exact ⟨by have := (hbd x List.mem_cons_self).1; omega, ascB_iff.mp w2⟩
  | _ => rfl
theorem lastsL_bool {b : Int × Int} {k : Bool → Prop} : isD (lastsL b) .none (fun c => k (!c)) = k (match lasts b with | some _ => true | none => false) := by
  unfold lastsL
  cases lasts b <;> rfl
/-- a loop that keeps an invariant, over parts that are good -/
theorem forL_each {f : D → En → (En → Prop) → Prop} {k : En → Prop} (P : D → Prop) (I : En → Prop) : ∀ {xs : List D} {ρ : En}, (∀ x ∈ xs, P x) → I ρ → (∀ x ρ k', P x → I ρ → (∀ ρ', I ρ' → k' ρ') → f x ρ k') → (∀ ρ, I ρ → k ρ) → forL f xs ρ k
  | [], ρ, _, h0, _, he => he ρ h0
  | x :: xs, ρ, hp, h0, hs, he => hs x ρ _ (hp x List.mem_cons_self) h0 fun ρ' h1 => forL_each P I (fun y hy => hp y (List.mem_cons_of_mem _ hy)) h1 hs he
theorem t_does (H : Fns57 G) {bs : List (Int × Int)} (h2 : bs.length ≤ 4) {most : Nat} (hm : most < 10) {v : D} (hv : okV 2 v) (q : K.nx [none, some .box, c2, some (.d (.tuple (bs.map bnD))), c4, c5, c6, c7, c8, c9, c10, c11, some (.d v), c13, c14, c15, c16, some (.d (.int most)), c18, c19, some (.d (.bool (doesB bs most v))), c21, c22, c23, c24, c25, c26, c27]) : exec (ctx G (n + 10)) s_law_f2_0 [none, some .box, c2, some (.d (.tuple (bs.map bnD))), c4, c5, c6, c7, c8, c9, c10, c11, some (.d v), c13, c14, c15, c16, some (.d (.int most)), c18, c19, c20, c21, c22, c23, c24, c25, c26, c27] K := by
  unfold s_law_f2_0
  unfold doesB at q
  trivial
  refine ok_are_days (n := n + 8) H.whole H.are_days 1 most v hv.1 hv.2 ?_
  cases w : areDays 1 most v with
  | false => rw [w, Bool.false_and] at q; trivial; exact q
  | true =>
    rw [w, Bool.true_and] at q
    cases v with
    | tuple xs =>
      trivial
      refine ok_never_full (n := n + 9) H.never_full bs (by omega) most (by omega) (.tuple xs) xs rfl ?_
      trivial
      exact q
    | _ => cases w
theorem t_do_same (H : Fns57 G) {bs : List (Int × Int)} (hb : ∀ b ∈ bs, okBin b) (h2 : bs.length ≤ 4) {most : Nat} {v : D} (hv : okV 2 v) (q : K.nx [none, some .box, c2, some (.d (.tuple (bs.map bnD))), c4, c5, c6, c7, c8, c9, c10, c11, some (.d v), c13, c14, c15, c16, some (.d (.int most)), c18, c19, some (.d (.bool (doesB bs most v))), c21, c22, c23, c24, c25, c26, c27]) : exec (ctx G (n + 10)) s_law_f2_1 [none, some .box, c2, some (.d (.tuple (bs.map bnD))), c4, c5, c6, c7, c8, c9, c10, c11, some (.d v), c13, c14, c15, c16, some (.d (.int most)), c18, c19, some (.d (.bool (doesB bs most v))), c21, c22, c23, c24, c25, c26, c27] K := by
  unfold s_law_f2_1
  trivial
  refine ok_do_days (n := n + 7) H.lasts_for H.least_lasting H.number H.ascending H.do_days bs hb (by omega) most v hv.1 ?_
  trivial
  refine same_eq (n := 0) (m := n + 9) H.same (by rw [does_eq hb]) (fit_flat rfl) ?_
  trivial
  exact q
def dueB (bs : List (Int × Int)) (T : Nat) (v i : D) : Bool := doesB bs T v && (isNum 0 (bs.length - 1) i && match bs[(toI i).toNat]? with
  | some b => match lasts b with
    | some _ => true
    | none => false
  | none => false)
theorem due_no {bs : List (Int × Int)} (hb : ∀ b ∈ bs, okBin b) {T : Nat} {v i : D} (h : dueB bs T v i = false) : showB bs T v i = false := by
  unfold dueB at h
  unfold showB
  rw [← does_eq hb]
  cases w : doesB bs T v with
  | false => rfl
  | true =>
  rw [w, Bool.true_and] at h
  cases w2 : isNum 0 ((bs.length : Int) - 1) i with
  | false => rfl
  | true =>
  rw [w2, Bool.true_and] at h
  cases w3 : bs[(toI i).toNat]? with
  | none => rfl
  | some b =>
  rw [w3] at h
  simp only [] at h ⊢
  cases w4 : lasts b with
  | none => rfl
  | some k => rw [w4] at h; cases h
theorem due_yes {bs : List (Int × Int)} (hb : ∀ b ∈ bs, okBin b) {T : Nat} {v i : D} (h : dueB bs T v i = true) : ∃ (xs : List D) (j : Nat) (b : Int × Int) (k : Int), v = .tuple xs ∧ i = .int j ∧ bs[j]? = some b ∧ lasts b = some k ∧ showB bs T v i = decide ((xs.length : Int) = mx0 T / k) := by
  unfold dueB at h
  simp only [Bool.and_eq_true] at h
  obtain ⟨h1, h2, h3⟩ := h
  obtain ⟨xs, rfl⟩ := do_tuple ((does_eq hb T v).symm.trans h1)
  cases i with
  | int i =>
    have h4 := h2
    simp only [isNum, Bool.and_eq_true, decide_eq_true_eq] at h4
    obtain ⟨j, rfl⟩ : ∃ j : Nat, i = j := ⟨i.toNat, by omega⟩
    have hj : j < bs.length := by omega
    rw [show (toI (.int (j : Int))).toNat = j from rfl, List.getElem?_eq_getElem hj] at h3
    simp only [] at h3
    cases w4 : lasts bs[j] with
    | none => rw [w4] at h3; cases h3
    | some k =>
      refine ⟨xs, j, bs[j], k, rfl, rfl, List.getElem?_eq_getElem hj, w4, ?_⟩
      unfold showB
      rw [← does_eq hb, h1, h2, show (toI (.int (j : Int))).toNat = j from rfl, List.getElem?_eq_getElem hj]
      simp only [w4, Bool.true_and]
      rfl
  | _ => cases h2
theorem t_due (H : Fns57 G) {bs : List (Int × Int)} (hb : ∀ b ∈ bs, okBin b) (h1 : 1 ≤ bs.length) (h2 : bs.length ≤ 4) {most : Nat} {v i : D} (q : K.nx [none, some .box, c2, some (.d (.tuple (bs.map bnD))), c4, some (.d (.list (bs.map lastsL))), c6, c7, c8, c9, c10, c11, some (.d v), c13, c14, c15, c16, c17, c18, c19, some (.d (.bool (doesB bs most v))), some (.d i), c22, c23, c24, some (.d (.bool (dueB bs most v i))), c26, c27]) : exec (ctx G (n + 10)) s_law_f3_0 [none, some .box, c2, some (.d (.tuple (bs.map bnD))), c4, some (.d (.list (bs.map lastsL))), c6, c7, c8, c9, c10, c11, some (.d v), c13, c14, c15, c16, c17, c18, c19, some (.d (.bool (doesB bs most v))), some (.d i), c22, c23, c24, c25, c26, c27] K := by
  unfold s_law_f3_0
  unfold dueB at q
  trivial
  cases w : doesB bs most v with
  | false => rw [w] at q; trivial; exact q
  | true =>
  rw [w, Bool.true_and] at q
  trivial
  rw [List.length_map]
  refine ok_law_whole (n := n + 9) H.whole _ _ _ ?_
  cases w2 : isNum 0 ((bs.length : Int) - 1) i with
  | false => rw [w2, Bool.false_and] at q; trivial; exact q
  | true =>
  rw [w2, Bool.true_and] at q
  cases i with
  | int i =>
    simp only [isNum, Bool.and_eq_true, decide_eq_true_eq] at w2
    obtain ⟨j, rfl⟩ : ∃ j : Nat, i = j := ⟨i.toNat, by omega⟩
    have hj : j < bs.length := by omega
    rw [show (toI (.int (j : Int))).toNat = j from rfl, List.getElem?_eq_getElem hj] at q
    simp only [] at q
    trivial
    rw [at_nat, List.getElem?_map, List.getElem?_eq_getElem hj]
    trivial
    cases w3 : lasts bs[j] with
    | none => rw [show lastsL bs[j] = .none by unfold lastsL; rw [w3]; rfl]; simp only [w3] at q; trivial; exact q
    | some k => rw [show lastsL bs[j] = .int k by unfold lastsL; rw [w3]; rfl]; simp only [w3] at q; trivial; exact q
  | _ => cases w2
theorem t_shows (H : Fns57 G) {bs : List (Int × Int)} (hb : ∀ b ∈ bs, okBin b) (h1 : 1 ≤ bs.length) (h2 : bs.length ≤ 4) {most : Nat} {v i : D} (hv : okV 2 v) (q : K.nx [none, some .box, c2, some (.d (.tuple (bs.map bnD))), c4, some (.d (.list (bs.map lastsL))), c6, c7, c8, c9, c10, c11, some (.d v), c13, c14, c15, c16, some (.d (.int most)), c18, c19, c20, some (.d i), c22, c23, c24, some (.d (.bool (dueB bs most v i))), c26, c27]) : exec (ctx G (n + 10)) s_law_f3_1 [none, some .box, c2, some (.d (.tuple (bs.map bnD))), c4, some (.d (.list (bs.map lastsL))), c6, c7, c8, c9, c10, c11, some (.d v), c13, c14, c15, c16, some (.d (.int most)), c18, c19, c20, some (.d i), c22, c23, c24, some (.d (.bool (dueB bs most v i))), c26, c27] K := by
  unfold s_law_f3_1
  trivial
  refine ok_shows_days (n := n + 6) H.lasts_for H.least_lasting H.number H.ascending H.do_days H.shows bs hb (by omega) most v hv.1 i ?_
  have same : ∀ (b : Bool) (kd : D → Prop), kd (.bool true) → callN G (n + 10) f__law_same [.d (.bool b), .d (.bool b)] kd := fun b kd q => same_eq (n := 0) (m := n + 9) H.same rfl (fit_flat rfl) q
  cases w : dueB bs most v i with
  | false =>
    rw [w] at q
    rw [due_no hb w]
    trivial
    refine same false _ ?_
    trivial
    exact q
  | true =>
    rw [w] at q
    obtain ⟨xs, j, b, k, rfl, rfl, e1, e2, e3⟩ := due_yes hb w
    have := lasts_pos (hb b (List.mem_of_getElem? e1)) e2
    rw [e3]
    trivial
    rw [at_nat, List.getElem?_map, e1]
    trivial
    rw [show lastsL b = .int k by unfold lastsL; rw [e2]; rfl]
    trivial
    refine ⟨divW (by omega) (by omega), ?_⟩
    refine same _ _ ?_
    trivial
    exact q
theorem t_ks (H : Fns57 G) {bs : List (Int × Int)} (hb : ∀ b ∈ bs, okBin b) (h1 : 1 ≤ bs.length) (h2 : bs.length ≤ 4) {most : Nat} {v : D} (hv : okV 2 v) (q : ∀ c21 c25 : Option Vl, K.nx [none, some .box, c2, some (.d (.tuple (bs.map bnD))), c4, some (.d (.list (bs.map lastsL))), c6, c7, c8, c9, c10, c11, some (.d v), c13, c14, c15, c16, some (.d (.int most)), c18, c19, some (.d (.bool (doesB bs most v))), c21, c22, c23, c24, c25, c26, c27]) : exec (ctx G (n + 10)) s_law_f2_2 [none, some .box, c2, some (.d (.tuple (bs.map bnD))), c4, some (.d (.list (bs.map lastsL))), c6, c7, c8, c9, c10, c11, some (.d v), c13, c14, c15, c16, some (.d (.int most)), c18, c19, some (.d (.bool (doesB bs most v))), c21, c22, c23, c24, c25, c26, c27] K := by
  unfold s_law_f2_2
  trivial
  refine forL_each (fun _ => True) (fun ρ => ∃ c21 c25 : Option Vl, ρ = [none, some .box, c2, some (.d (.tuple (bs.map bnD))), c4, some (.d (.list (bs.map lastsL))), c6, c7, c8, c9, c10, c11, some (.d v), c13, c14, c15, c16, some (.d (.int most)), c18, c19, some (.d (.bool (doesB bs most v))), c21, c22, c23, c24, c25, c26, c27]) (fun _ _ => True.intro) ⟨_, _, rfl⟩ ?_ ?_
  · rintro i ρ k' _ ⟨c21, c25, rfl⟩ hk
    trivial
    refine t_due H hb h1 h2 ?_
    trivial
    refine t_shows H hb h1 h2 hv ?_
    exact hk _ ⟨_, _, rfl⟩
  · rintro ρ ⟨c21, c25, rfl⟩
    exact q _ _
theorem sm_row {r : List Int} (h : r.length ≤ 100) (hb : ∀ x ∈ r, x.natAbs ≤ 100) : smD 1 (rowD r) := by
  unfold rowD
  simp only [smD]
  refine ⟨by rw [List.length_map]; omega, smL_all.mp fun x hx => ?_⟩
  obtain ⟨a, ha, rfl⟩ := List.mem_map.mp hx
  have := hb a ha
  simp only [smD]
  omega
theorem flats_okV {n : Nat} {xs : List D} (h : xs.length ≤ 4000) (hf : ∀ x ∈ xs, flat x = true) : okV (n + 1) (.tuple xs) := okV_tup h fun x hx => fit_flat (hf x hx)
theorem flat_ints {r : List Int} : ∀ x ∈ r.map PyData.int, flat x = true := fun x hx => by
  obtain ⟨a, _, rfl⟩ := List.mem_map.mp hx
  rfl
theorem flat_rng {a b : Int} : ∀ x ∈ rngL a b, flat x = true := fun x hx => by
  unfold rngL at hx
  obtain ⟨i, _, rfl⟩ := List.mem_map.mp hx
  rfl
theorem t_values (H : Fns57 G) (h0 : G.k0 ≤ n) {bs : List (Int × Int)} (hb : ∀ b ∈ bs, okBin b) (h1 : 1 ≤ bs.length) (h2 : bs.length ≤ 4) {most : Nat} (hm : most < 10) {few some_ : List Int} (hf : few.length ≤ 10) (hs : some_.length ≤ 10) (hsb : ∀ x ∈ some_, x.natAbs ≤ 100)
    (q : ∀ c12 c20 c21 c25 : Option Vl, K.nx [none, some .box, c2, some (.d (.tuple (bs.map bnD))), c4, some (.d (.list (bs.map lastsL))), c6, c7, some (.d (rowD few)), c9, c10, some (.d (rowD some_)), c12, c13, c14, c15, c16, some (.d (.int most)), c18, c19, c20, c21, c22, c23, c24, c25, c26, c27]) : exec (ctx G (n + 10)) s_law_17 [none, some .box, c2, some (.d (.tuple (bs.map bnD))), c4, some (.d (.list (bs.map lastsL))), c6, c7, some (.d (rowD few)), c9, c10, some (.d (rowD some_)), c12, c13, c14, c15, c16, some (.d (.int most)), c18, c19, c20, c21, c22, c23, c24, c25, c26, c27] K := by
  unfold s_law_17
  have hsm := sm_row (r := some_) (by omega) hsb
  rw [row_eq, row_eq] at *
  trivial
  rw [cut_1, cut_t1]
  refine ⟨by rw [List.length_take, List.length_map]; omega, 1, (most : Int) + 1, rfl, rfl, by omega, by rw [rngL_len]; omega, by decide, ?_⟩
  refine lcl_goodI (okV 2) 21 rfl (by decide) (fun x hx c k2 hk => ?_) fun ds c hdl hds => ?_
  · trivial
    refine ok_law_bent H.drw (m := n + 7) (by omega) H.pr H.bent 1 _ _ hsm fun d hd => ?_
    trivial
    exact hk d (some (.d x)) hd
  · have hdl : ds.length = 3 := hdl
    refine ⟨by omega, ?_⟩
    refine forL_each (okV 2) (fun ρ => ∃ c12 c20 c21 c25 : Option Vl, ρ = [none, some .box, c2, some (.d (.tuple (bs.map bnD))), c4, some (.d (.list (bs.map lastsL))), c6, c7, some (.d (rowD few)), c9, c10, some (.d (rowD some_)), c12, c13, c14, c15, c16, some (.d (.int most)), c18, c19, c20, c21, c22, c23, c24, c25, c26, c27]) ?_ ⟨_, _, _, _, rfl⟩ ?_ ?_
    · intro x hx
      have fi := flat_ints (r := some_)
      have f1 : ∀ x ∈ (some_.map PyData.int).take 1, flat x = true := fun x h => fi x (List.mem_of_mem_take h)
      have l1 : ((some_.map PyData.int).take 1).length ≤ 1 := by rw [List.length_take]; omega
      simp only [List.mem_cons] at hx
      rcases hx with rfl | rfl | rfl | rfl | rfl | rfl | rfl | rfl | rfl | rfl | rfl | rfl | hx
      · exact flats_okV (by rw [List.length_map]; omega) flat_ints
      · exact flats_okV (by rw [List.length_map]; omega) fi
      · exact flats_okV (by rw [List.length_reverse, List.length_map]; omega) fun x h => fi x (List.mem_reverse.mp h)
      · exact flats_okV (by rw [List.length_drop, List.length_map]; omega) fun x h => fi x (List.mem_of_mem_drop h)
      · exact flats_okV (by rw [List.length_append, List.length_map]; omega) fun x h => (List.mem_append.mp h).elim (fi x) (f1 x)
      · exact flats_okV (by simp) fun x h => by rw [List.mem_singleton.mp h]; rfl
      · exact flats_okV (by simp) fun x h => by rw [List.mem_singleton.mp h]; rfl
      · exact flats_okV (by simp) fun x h => by rw [List.mem_singleton.mp h]; rfl
      · exact flats_okV (by rw [rngL_len]; omega) flat_rng
      · exact okV_flat rfl
      · exact flats_okV (by simp) fun x h => by cases h
      · exact okV_flat rfl
      · exact hds x hx
    · rintro v ρ k' hv ⟨c12, c20, c21, c25, rfl⟩ hk
      trivial
      refine t_does H h2 hm hv ?_
      trivial
      refine t_do_same H hb h2 hv ?_
      trivial
      refine t_ks H hb h1 h2 hv fun c21 c25 => ?_
      exact hk _ ⟨_, _, _, _, rfl⟩
    · rintro ρ ⟨c12, c20, c21, c25, rfl⟩
      exact q _ _ _ _
end

def weeksL (bs : List (Int × Int)) (w : Nat) : List (List Int) := (subsN 0 w).filter (foreverB bs w)
theorem isNil_least {bs : List (Int × Int)} : isNil (lows bs) = (least bs).isNone := by
  unfold least
  cases lows bs <;> rfl
theorem forever_cyc {bs : List (Int × Int)} (hb : ∀ b ∈ bs, okBin b) {w : Nat} {r : List Int} (h : r ∈ subsN 0 w) : foreverB bs w r = cycB (least bs) w r := by
  have ⟨ha, hw⟩ := mem_subsN.mp h
  cases r with
  | nil =>
    show isNil (lows bs) = _
    rw [isNil_least]
    cases least bs <;> rfl
  | cons x xs =>
    show nf (over bs) (memD ((turned x w (x :: xs)).map .int)) (3 * w) 1 0 = gapsB (least bs) x xs (x + w)
    cases w3 : least bs with
    | none => rw [gaps_none]; exact nf_none (over_none hb w3) _ _ _
    | some k =>
      rw [gaps_some]
      have := nf_week (k := k) (by have := least_pos hb w3; omega) (over_some hb w3) (w := w) (x := x) (xs := xs) ha (fun y hy => by have := hw y hy; omega) (fun s => memD_ints s)
      rw [Bool.eq_iff_iff, this, decide_eq_true_iff]
      rfl
theorem weekB_row {o : Option Int} {w : Nat} {r : List Int} (h : r ∈ subsN 0 w) : weekB o w (rowD r) = cycB o w r := by
  have ⟨ha, hw⟩ := mem_subsN.mp h
  have h1 : areDays 0 ((w : Int) - 1) (rowD r) = true := asc_areDays ha fun x hx => by have := hw x hx; omega
  have h1 : ((r.map PyData.int).all (isNum 0 ((w : Int) - 1)) && ascB ((r.map PyData.int).map toI)) = true := h1
  show ((r.map PyData.int).all (isNum 0 ((w : Int) - 1)) && (ascB ((r.map PyData.int).map toI) && cycB o w ((r.map PyData.int).map toI))) = _
  rw [← Bool.and_assoc, h1, Bool.true_and, List.map_map, show toI ∘ PyData.int = id from rfl, List.map_id]
theorem weeks_eq {bs : List (Int × Int)} (hb : ∀ b ∈ bs, okBin b) (w : Nat) : ((subsN 0 w).filter fun r => weekB (least bs) w (rowD r)) = weeksL bs w := by
  unfold weeksL
  refine List.filter_congr fun r hr => ?_
  rw [weekB_row hr, forever_cyc hb hr]
theorem week_any {bs : List (Int × Int)} (hb : ∀ b ∈ bs, okBin b) (w : Nat) (v : D) : weekB (least bs) w v = (weeksL bs w).any fun r => sameD v (rowD r) := by
  rw [Bool.eq_iff_iff, List.any_eq_true]
  constructor
  · intro h
    cases v with
    | tuple xs =>
      have h' : (xs.all (isNum 0 ((w : Int) - 1)) && (ascB (xs.map toI) && cycB (least bs) w (xs.map toI))) = true := h
      simp only [Bool.and_eq_true] at h'
      obtain ⟨h1, h2, h3⟩ := h'
      obtain ⟨e, hbd⟩ := ints_of h1
      generalize xs.map toI = ns at e hbd h2 h3
      subst e
      have hm : ns ∈ subsN 0 w := mem_subsN.mpr ⟨by
        cases ns with
        | nil => exact True.intro
        | cons x r => exact ⟨by have := (hbd x List.mem_cons_self).1; omega, ascB_iff.mp h2⟩, fun x hx => by have := hbd x hx; omega⟩
      exact ⟨ns, List.mem_filter.mpr ⟨hm, by rw [forever_cyc hb hm]; exact h3⟩, same_tints.mpr rfl⟩
    | _ => cases h
  · rintro ⟨r, hr, e⟩
    have := same_tints.mp e
    subst this
    have hr := List.mem_filter.mp hr
    show weekB (least bs) w (rowD r) = true
    rw [weekB_row hr.1, ← forever_cyc hb hr.1]
    exact hr.2
theorem weeks_ne {bs : List (Int × Int)} (hb : ∀ b ∈ bs, okBin b) {w : Nat} (hw : 1 ≤ w) : weeksL bs w ≠ [] := by
  intro e
  cases w3 : least bs with
  | none =>
    have : ([] : List Int) ∈ weeksL bs w := by
      have hm : ([] : List Int) ∈ subsN 0 w := mem_subsN.mpr ⟨True.intro, by simp⟩
      exact List.mem_filter.mpr ⟨hm, by rw [forever_cyc hb hm, w3]; rfl⟩
    rw [e] at this
    cases this
  | some k =>
    obtain ⟨r, h1, h2, h3, h4⟩ := week_few (least_pos hb w3).1 hw
    have : r ∈ weeksL bs w := by
      have hm : r ∈ subsN 0 w := mem_subsN.mpr ⟨h1, fun x hx => by have := h2 x hx; omega⟩
      refine List.mem_filter.mpr ⟨hm, ?_⟩
      rw [forever_cyc hb hm, w3]
      cases r with
      | nil => exact h3.elim
      | cons x xs => exact decide_eq_true h3
    rw [e] at this
    cases this
theorem minR_spec {rows : List (List Int)} (h : rows ≠ []) : ∃ t ∈ rows, minR rows = rowD t ∧ ∀ r ∈ rows, t.length ≤ r.length := by
  cases rows with
  | nil => exact absurd rfl h
  | cons r rows =>
    have m : minD (nrD ((r.length : Int), r)) (rows.map fun r => nrD ((r.length : Int), r)) ∈ (r :: rows).map fun r => nrD ((r.length : Int), r) := minD_mem _ _
    obtain ⟨t, ht, e⟩ := List.mem_map.mp m
    refine ⟨t, ht, ?_, fun s hs => ?_⟩
    · unfold minR
      rw [List.map_cons]
      simp only [← e]
      rfl
    · have := minD_le (nrD ((r.length : Int), r)) (rows.map fun r => nrD ((r.length : Int), r)) (nrD ((s.length : Int), s)) (by
        have := List.mem_map_of_mem (f := fun r : List Int => nrD ((r.length : Int), r)) hs
        exact this)
      rw [← e, lt_nr] at this
      have := of_decide_eq_false this
      simp only [] at this
      omega
theorem week_told {bs : List (Int × Int)} (hb : ∀ b ∈ bs, okBin b) {w : Nat} (hw : 1 ≤ w) {k : Int} (h : least bs = some k) : ∃ t, minR (weeksL bs w) = rowD t ∧ (t.length : Int) = ((w : Int) + k - 1) / k ∧ t.length ≤ w := by
  obtain ⟨t, ht, e, hmin⟩ := minR_spec (weeks_ne hb hw)
  have hk := (least_pos hb h).1
  have cyc_of : ∀ r ∈ weeksL bs w, cyc k w r := fun r hr => by
    have hr := List.mem_filter.mp hr
    have := hr.2
    rw [forever_cyc hb hr.1, h] at this
    cases r with
    | nil => cases this
    | cons x xs => exact of_decide_eq_true this
  refine ⟨t, e, ?_, subsN_mem_len (List.mem_filter.mp ht).1⟩
  have h1 := week_least hk (cyc_of t ht)
  obtain ⟨r, h2, h3, h4, h5⟩ := week_few hk hw
  have : r ∈ weeksL bs w := by
    have hm : r ∈ subsN 0 w := mem_subsN.mpr ⟨h2, fun x hx => by have := h3 x hx; omega⟩
    refine List.mem_filter.mpr ⟨hm, ?_⟩
    rw [forever_cyc hb hm, h]
    cases r with
    | nil => exact h4.elim
    | cons x xs => exact decide_eq_true h4
  have := hmin r this
  omega
def toldW (bs : List (Int × Int)) (w : Nat) : D := match least bs with
  | none => .none
  | some _ => minR (weeksL bs w)
section
variable {G : Pg} {n : Nat} {K : Ends} {c2 c3 c4 c5 c6 c7 c8 c9 c10 c11 c12 c13 c14 c15 c16 c17 c18 c19 c20 c21 c22 c23 c24 c25 c26 c27 : Option Vl}
theorem weeksL_len {bs : List (Int × Int)} {w : Nat} (h : w ≤ 12) : (weeksL bs w).length ≤ 4096 := by
  refine Nat.le_trans (List.length_filter_le _ _) ?_
  rw [subsN_len]
  exact Nat.le_trans (Nat.pow_le_pow_right (by decide) h) (by decide)
theorem weeksL_mem_len {bs : List (Int × Int)} {w : Nat} {r : List Int} (h : r ∈ weeksL bs w) : r.length ≤ w := subsN_mem_len (List.mem_filter.mp h).1
theorem t_w (H : Fns57 G) (h0 : G.k0 ≤ n) (q : ∀ w : Nat, 1 ≤ w → w ≤ 10 → K.nx [none, some .box, c2, c3, c4, c5, c6, c7, c8, c9, c10, c11, c12, some (.d (.int w)), c14, c15, c16, c17, c18, c19, c20, c21, c22, c23, c24, c25, c26, c27]) : exec (ctx G (n + 10)) s_law_18 [none, some .box, c2, c3, c4, c5, c6, c7, c8, c9, c10, c11, c12, c13, c14, c15, c16, c17, c18, c19, c20, c21, c22, c23, c24, c25, c26, c27] K := by
  unfold s_law_18
  trivial
  refine H.draw h0 rfl 10 _ (by decide) (by decide) fun k k0 k4 => ?_
  obtain ⟨k, rfl⟩ : ∃ j : Nat, k = j := ⟨k.toNat, by omega⟩
  trivial
  rw [show (1 : Int) + (k : Int) = ((k + 1 : Nat) : Int) by omega]
  exact q (k + 1) (by omega) (by omega)
theorem t_weeks (H : Fns57 G) {bs : List (Int × Int)} (h2 : bs.length ≤ 4) {w : Nat} (hw : w ≤ 10) (q : ∀ c24 : Option Vl, K.nx [none, some .box, c2, some (.d (.tuple (bs.map bnD))), c4, c5, c6, c7, c8, c9, c10, c11, c12, some (.d (.int w)), some (.d (.list ((weeksL bs w).map rowD))), c15, c16, c17, c18, c19, c20, c21, c22, c23, c24, c25, c26, c27]) : exec (ctx G (n + 10)) s_law_19 [none, some .box, c2, some (.d (.tuple (bs.map bnD))), c4, c5, c6, c7, c8, c9, c10, c11, c12, some (.d (.int w)), c14, c15, c16, c17, c18, c19, c20, c21, c22, c23, c24, c25, c26, c27] K := by
  unfold s_law_19
  trivial
  refine ⟨⟨by omega, by omega⟩, by rw [rngL_len]; omega, ?_⟩
  have e : rngL 0 (w : Int) = rngL 0 (0 + (w : Int)) := by rw [Int.zero_add]
  rw [e]
  refine ok_law_subsets (n := n + 9) H.subsets 0 w (by omega) ?_
  trivial
  refine lcl_filter rowD rowD (foreverB bs w) 24 rfl (by rw [subsN_len]; exact Nat.le_trans (Nat.pow_le_pow_right (by decide) (show w ≤ 12 by omega)) (by decide)) (fun r hr c k2 hk => ?_) fun c => ?_
  · have hk := hk (some (.d (rowD r)))
    have := subsN_mem_len hr
    trivial
    refine ok_for_ever (n := n + 8) H.never_full H.turned H.for_ever bs (by omega) w (by omega) r (by omega) ?_
    cases w2 : foreverB bs w r with
    | true => simp only [w2, if_true] at hk; trivial; exact hk
    | false => simp only [w2, Bool.false_eq_true, if_false] at hk; trivial; exact hk
  · exact q _
theorem t_told2 (H : Fns57 G) {bs : List (Int × Int)} (hb : ∀ b ∈ bs, okBin b) (h2 : bs.length ≤ 4) {w : Nat} (hw1 : 1 ≤ w) (hw : w ≤ 10) (q : K.nx [none, some .box, c2, some (.d (.tuple (bs.map bnD))), c4, c5, c6, c7, c8, c9, c10, c11, c12, some (.d (.int w)), c14, some (.d (toldW bs w)), c16, c17, c18, c19, c20, c21, c22, c23, c24, c25, c26, c27]) : exec (ctx G (n + 10)) s_law_20 [none, some .box, c2, some (.d (.tuple (bs.map bnD))), c4, c5, c6, c7, c8, c9, c10, c11, c12, some (.d (.int w)), c14, c15, c16, c17, c18, c19, c20, c21, c22, c23, c24, c25, c26, c27] K := by
  unfold s_law_20
  trivial
  refine ok_week_days (n := n + 6) H.lasts_for H.least_lasting H.number H.ascending H.do_week H.week_days bs hb (by omega) w (by omega) (fun _ => by rw [weeks_eq hb]; exact weeks_ne hb hw1) ?_
  rw [weeks_eq hb]
  trivial
  exact q
theorem fit_told {bs : List (Int × Int)} (hb : ∀ b ∈ bs, okBin b) {w : Nat} (hw1 : 1 ≤ w) (hw : w ≤ 10) : fitD 1 (toldW bs w) := by
  unfold toldW
  cases w3 : least bs with
  | none => exact fit_flat rfl
  | some k =>
    obtain ⟨t, e, _, h⟩ := week_told hb hw1 w3
    simp only [e]
    exact (row_okV (n := 0) (by omega)).1
theorem t_check3 (H : Fns57 G) {bs : List (Int × Int)} (hb : ∀ b ∈ bs, okBin b) (h2 : bs.length ≤ 4) {w : Nat} (hw1 : 1 ≤ w) (hw : w ≤ 10) (q : ∀ c24 : Option Vl, K.nx [none, some .box, c2, c3, c4, c5, some (.d (optD (least bs))), c7, c8, c9, c10, c11, c12, some (.d (.int w)), some (.d (.list ((weeksL bs w).map rowD))), some (.d (toldW bs w)), c16, c17, c18, c19, c20, c21, c22, c23, c24, c25, c26, c27]) : exec (ctx G (n + 10)) s_law_21 [none, some .box, c2, c3, c4, c5, some (.d (optD (least bs))), c7, c8, c9, c10, c11, c12, some (.d (.int w)), some (.d (.list ((weeksL bs w).map rowD))), some (.d (toldW bs w)), c16, c17, c18, c19, c20, c21, c22, c23, c24, c25, c26, c27] K := by
  unfold s_law_21
  have hft := fit_told hb hw1 hw
  unfold toldW at q hft ⊢
  cases w3 : least bs with
  | none =>
    rw [w3] at q
    unfold optD at q ⊢
    trivial
    refine same_eq (n := 1) (m := n + 8) H.same rfl (fit_flat rfl) ?_
    trivial
    exact q _
  | some k =>
    rw [w3] at q hft
    have hk := least_pos hb w3
    obtain ⟨t, e, e2, h⟩ := week_told hb hw1 w3
    simp only [e] at q hft ⊢
    unfold optD at q ⊢
    rw [row_eq] at q hft ⊢
    trivial
    have hl := weeksL_len (bs := bs) (show w ≤ 12 by omega)
    refine lcl_map rowD (fun r => nrD (r.length, r)) 24 rfl (by omega) (fun r hr c k2 hk => ?_) fun c => ?_
    · have hk := hk (some (.d (rowD r)))
      rw [row_eq] at hk ⊢
      trivial
      rw [List.length_map]
      exact hk
    · refine min_rows (weeks_ne hb hw1) ?_
      rw [e]
      trivial
      refine same_eq (n := 1) (m := n + 8) H.same rfl hft ?_
      trivial
      refine ⟨divW (by omega) (by omega), ?_⟩
      rw [List.length_map, e2, decide_eq_true rfl]
      trivial
      exact q _
theorem t_week_same (H : Fns57 G) {bs : List (Int × Int)} (hb : ∀ b ∈ bs, okBin b) (h2 : bs.length ≤ 4) {w : Nat} (hw : w ≤ 10) {v : D} (hv : okV 2 v) (q : ∀ c24 : Option Vl, K.nx [none, some .box, c2, some (.d (.tuple (bs.map bnD))), c4, c5, c6, c7, c8, c9, c10, c11, some (.d v), some (.d (.int w)), some (.d (.list ((weeksL bs w).map rowD))), c15, c16, c17, c18, c19, c20, c21, c22, c23, c24, c25, c26, c27]) : exec (ctx G (n + 10)) s_law_f4_0 [none, some .box, c2, some (.d (.tuple (bs.map bnD))), c4, c5, c6, c7, c8, c9, c10, c11, some (.d v), some (.d (.int w)), some (.d (.list ((weeksL bs w).map rowD))), c15, c16, c17, c18, c19, c20, c21, c22, c23, c24, c25, c26, c27] K := by
  unfold s_law_f4_0
  trivial
  refine ok_do_week (n := n + 7) H.lasts_for H.least_lasting H.number H.ascending H.do_week bs hb (by omega) w v hv.1 ?_
  trivial
  have hl := weeksL_len (bs := bs) (show w ≤ 12 by omega)
  refine lcl_map rowD (fun r => .bool (sameD v (rowD r))) 24 rfl (by omega) (fun r hr c k2 hk => ?_) fun c => ?_
  · have hk := hk (some (.d (rowD r)))
    have := weeksL_mem_len hr
    trivial
    refine ok_law_same H.same 2 (n + 7) _ _ _ hv.1 (row_okV (by omega)).1 ?_
    exact hk
  · refine ⟨fits_map_bool, ?_⟩
    rw [any_map_bool]
    trivial
    refine same_eq (n := 0) (m := n + 9) H.same (by rw [week_any hb]) (fit_flat rfl) ?_
    trivial
    exact q _
theorem t_values2 (H : Fns57 G) (h0 : G.k0 ≤ n) {bs : List (Int × Int)} (hb : ∀ b ∈ bs, okBin b) (h1 : 1 ≤ bs.length) (h2 : bs.length ≤ 4) {w : Nat} (hw : w ≤ 10) {some_ : List Int} (hs : some_.length ≤ 10) (hsb : ∀ x ∈ some_, x.natAbs ≤ 100)
    (q : ∀ c12 c21 c24 : Option Vl, K.nx [none, some .box, c2, some (.d (.tuple (bs.map bnD))), c4, c5, c6, c7, c8, c9, c10, some (.d (rowD some_)), c12, some (.d (.int w)), some (.d (.list ((weeksL bs w).map rowD))), c15, c16, c17, c18, c19, c20, c21, c22, c23, c24, c25, c26, c27]) : exec (ctx G (n + 10)) s_law_23 [none, some .box, c2, some (.d (.tuple (bs.map bnD))), c4, c5, c6, c7, c8, c9, c10, some (.d (rowD some_)), c12, some (.d (.int w)), some (.d (.list ((weeksL bs w).map rowD))), c15, c16, c17, c18, c19, c20, c21, c22, c23, c24, c25, c26, c27] K := by
  unfold s_law_23
  have hsm := sm_row (r := some_) (by omega) hsb
  rw [row_eq] at *
  trivial
  rw [cut_1, cut_t1]
  refine ⟨by rw [List.length_take, List.length_map]; omega, ⟨by omega, by omega⟩, by rw [rngL_len]; omega, by decide, ?_⟩
  refine lcl_goodI (okV 2) 21 rfl (by decide) (fun x hx c k2 hk => ?_) fun ds c hdl hds => ?_
  · trivial
    refine ok_law_bent H.drw (m := n + 7) (by omega) H.pr H.bent 1 _ _ hsm fun d hd => ?_
    trivial
    exact hk d (some (.d x)) hd
  · have hdl : ds.length = 3 := hdl
    refine ⟨by omega, ?_⟩
    refine forL_each (okV 2) (fun ρ => ∃ c12 c21 c24 : Option Vl, ρ = [none, some .box, c2, some (.d (.tuple (bs.map bnD))), c4, c5, c6, c7, c8, c9, c10, some (.d (rowD some_)), c12, some (.d (.int w)), some (.d (.list ((weeksL bs w).map rowD))), c15, c16, c17, c18, c19, c20, c21, c22, c23, c24, c25, c26, c27]) ?_ ⟨_, _, _, rfl⟩ ?_ ?_
    · intro x hx
      have fi := flat_ints (r := some_)
      have f1 : ∀ x ∈ (some_.map PyData.int).take 1, flat x = true := fun x h => fi x (List.mem_of_mem_take h)
      have l1 : ((some_.map PyData.int).take 1).length ≤ 1 := by rw [List.length_take]; omega
      simp only [List.mem_cons] at hx
      rcases hx with rfl | rfl | rfl | rfl | rfl | rfl | rfl | rfl | rfl | rfl | hx
      · exact flats_okV (by rw [List.length_map]; omega) fi
      · exact flats_okV (by rw [List.length_reverse, List.length_map]; omega) fun x h => fi x (List.mem_reverse.mp h)
      · exact flats_okV (by rw [List.length_drop, List.length_map]; omega) fun x h => fi x (List.mem_of_mem_drop h)
      · exact flats_okV (by rw [List.length_append, List.length_map]; omega) fun x h => (List.mem_append.mp h).elim (fi x) (f1 x)
      · exact flats_okV (by simp) fun x h => by rw [List.mem_singleton.mp h]; rfl
      · exact flats_okV (by simp) fun x h => by rw [List.mem_singleton.mp h]; rfl
      · exact flats_okV (by rw [rngL_len]; omega) flat_rng
      · exact okV_flat rfl
      · exact flats_okV (by simp) fun x h => by cases h
      · exact okV_flat rfl
      · exact hds x hx
    · rintro v ρ k' hv ⟨c12, c21, c24, rfl⟩ hk
      trivial
      refine t_week_same H hb h2 hw hv fun c24 => ?_
      exact hk _ ⟨_, _, _, rfl⟩
    · rintro ρ ⟨c12, c21, c24, rfl⟩
      exact q _ _ _
end

def oneOf (v : D) : D := match v with
  | .tuple (x :: _) => x
  | v => v
def partsOf (v : D) : List D := match v with
  | .tuple xs => oneOf (.tuple xs) :: xs
  | v => [v]
section
variable {G : Pg} {n : Nat} {K : Ends} {c2 c3 c4 c5 c6 c7 c8 c9 c10 c11 c12 c13 c14 c15 c16 c17 c18 c19 c20 c21 c22 c23 c24 c25 c26 c27 : Option Vl}
theorem t_one {v : D} (hv : okV 3 v) (q : K.nx [none, some .box, c2, c3, c4, c5, c6, c7, c8, c9, c10, c11, some (.d v), c13, c14, c15, c16, c17, c18, c19, c20, c21, some (.d (oneOf v)), c23, c24, c25, c26, c27]) : exec (ctx G (n + 10)) s_law_f5_0 [none, some .box, c2, c3, c4, c5, c6, c7, c8, c9, c10, c11, some (.d v), c13, c14, c15, c16, c17, c18, c19, c20, c21, c22, c23, c24, c25, c26, c27] K := by
  unfold s_law_f5_0
  cases v with
  | tuple xs =>
    trivial
    rw [cmp_neT]
    cases xs with
    | nil => exact q
    | cons x xs => exact ⟨x, rfl, q⟩
  | _ => trivial; exact q
theorem t_parts {v : D} (hv : okV 3 v) (q : K.nx [none, some .box, c2, c3, c4, c5, c6, c7, c8, c9, c10, c11, some (.d v), c13, c14, c15, c16, c17, c18, c19, c20, c21, some (.d (oneOf v)), some (.d (.list (partsOf v))), c24, c25, c26, c27]) : exec (ctx G (n + 10)) s_law_f5_1 [none, some .box, c2, c3, c4, c5, c6, c7, c8, c9, c10, c11, some (.d v), c13, c14, c15, c16, c17, c18, c19, c20, c21, some (.d (oneOf v)), c23, c24, c25, c26, c27] K := by
  unfold s_law_f5_1
  cases v with
  | tuple xs =>
    have := hv.2 xs rfl
    trivial
    exact ⟨by omega, q⟩
  | _ => trivial; exact q
theorem t_rows (H : Fns57 G) {v : D} {ps : List D} (hl : ps.length ≤ 5000) (q : ∀ c27 : Option Vl, K.nx [none, some .box, c2, c3, c4, c5, c6, c7, c8, c9, c10, c11, c12, c13, c14, c15, c16, c17, c18, some (.d (.list (ps.map fun p => .bool (binToldB p)))), c20, c21, c22, some (.d (.list ps)), c24, c25, c26, c27]) : exec (ctx G (n + 10)) s_law_f5_2 [none, some .box, c2, c3, c4, c5, c6, c7, c8, c9, c10, c11, c12, c13, c14, c15, c16, c17, c18, c19, c20, c21, c22, some (.d (.list ps)), c24, c25, c26, c27] K := by
  unfold s_law_f5_2
  trivial
  refine lcl_mapI (fun p => .bool (binToldB p)) 27 rfl (by omega) (fun p hp c k2 hk => ?_) fun c => ?_
  · have hk := hk (some (.d p))
    cases p with
    | tuple xs =>
      match xs, hk with
      | [], hk => trivial; exact hk
      | [a], hk => trivial; exact hk
      | a :: b :: c :: l, hk =>
        trivial
        rw [decide_eq_false (show ¬ ((l.length + 1 + 1 + 1 : Nat) : Int) = 2 by omega)]
        exact hk
      | [a, b], hk =>
        rw [show binToldB (.tuple [a, b]) = (isNum 0 9 a && isNum (if toI a > 1 then toI a else 1) 60 b) from rfl] at hk
        trivial
        refine ok_law_whole (n := n + 9) H.whole _ _ _ ?_
        cases w : isNum 0 9 a with
        | false => rw [w] at hk; trivial; exact hk
        | true =>
          rw [w, Bool.true_and] at hk
          cases a with
          | int m =>
            trivial
            refine ok_law_whole (n := n + 9) H.whole _ _ _ ?_
            trivial
            exact hk
          | _ => cases w
    | _ => trivial; exact hk
  · exact q _
theorem t_bin_same (H : Fns57 G) {v : D} (hv : okV 3 v) (q : K.nx [none, some .box, c2, c3, c4, c5, c6, c7, c8, c9, c10, c11, some (.d v), c13, c14, c15, c16, c17, c18, some (.d (.list ((partsOf v).map fun p => .bool (binToldB p)))), c20, c21, some (.d (oneOf v)), c23, c24, c25, c26, c27]) : exec (ctx G (n + 10)) s_law_f5_3 [none, some .box, c2, c3, c4, c5, c6, c7, c8, c9, c10, c11, some (.d v), c13, c14, c15, c16, c17, c18, some (.d (.list ((partsOf v).map fun p => .bool (binToldB p)))), c20, c21, some (.d (oneOf v)), c23, c24, c25, c26, c27] K := by
  unfold s_law_f5_3
  trivial
  refine ok_is_bin_told (n := n + 8) H.number H.bin_told H.c1 H.c2 _ ?_
  trivial
  refine ok_are_bins_told (n := n + 7) H.number H.bin_told H.bins_told H.c0 H.c1 H.c2 _ hv.1 ?_
  trivial
  have fin : ∀ (b c b' c' : Bool) (kd : D → Prop), b = b' → c = c' → kd (.bool true) → callN G (n + 10) f__law_same [.d (.tuple [.bool b, .bool c]), .d (.tuple [.bool b', .bool c'])] kd := fun b c b' c' kd e1 e2 q => same_eq (n := 1) (m := n + 8) H.same (by rw [e1, e2]) (fit_tup (by simp) fun x hx => by
    simp only [List.mem_cons, List.not_mem_nil, or_false] at hx
    rcases hx with rfl | rfl <;> exact fit_flat rfl) q
  have hc : ∀ (a : D) (l : List D), cutL (a :: l) (some 1) none = l := fun a l => cut_1 _
  cases v with
  | tuple xs =>
    rw [show binsToldB (.tuple xs) = (decide (1 ≤ (xs.length : Int)) && (decide ((xs.length : Int) ≤ 10) && xs.all binToldB)) from rfl]
    rw [show partsOf (.tuple xs) = oneOf (.tuple xs) :: xs from rfl] at q ⊢
    trivial
    rw [hc]
    cases w : decide (1 ≤ (xs.length : Int)) with
    | false => trivial; refine fin _ _ _ _ _ rfl rfl ?_; trivial; exact q
    | true =>
    trivial
    cases w2 : decide ((xs.length : Int) ≤ 10) with
    | false => trivial; refine fin _ _ _ _ _ rfl rfl ?_; trivial; exact q
    | true =>
    trivial
    refine ⟨fits_map_bool, ?_⟩
    rw [all_map_bool]
    refine fin _ _ _ _ _ rfl rfl ?_
    trivial
    exact q
  | _ =>
    trivial
    refine ⟨_, rfl, fin _ _ _ _ _ rfl rfl ?_⟩
    trivial
    exact q
theorem sm_bins {bs : List (Int × Int)} (hb : ∀ b ∈ bs, okBin b) (hl : bs.length ≤ 100) : smD 2 (.tuple (bs.map bnD)) := by
  simp only [smD]
  refine ⟨by rw [List.length_map]; omega, smL_all.mp fun x hx => ?_⟩
  obtain ⟨b, h, rfl⟩ := List.mem_map.mp hx
  have := hb b h
  unfold okBin at this
  unfold bnD
  simp only [smD, smL]
  refine ⟨by simp, ?_, ?_, True.intro⟩ <;> omega
theorem okV_bins {l : List (Int × Int)} (h : l.length ≤ 100) : okV 3 (.tuple (l.map bnD)) := okV_tup (by rw [List.length_map]; omega) fun x hx => by
  obtain ⟨b, _, rfl⟩ := List.mem_map.mp hx
  exact fitD_up _ _ fit_bn
theorem okV_one {a b : D} (ha : flat a = true) (hb : flat b = true) : okV 3 (.tuple [.tuple [a, b]]) := okV_tup (by simp) fun x hx => by
  rw [List.mem_singleton.mp hx]
  exact fitD_up _ _ (fit_tup (by simp) fun y hy => by
    simp only [List.mem_cons, List.not_mem_nil, or_false] at hy
    rcases hy with rfl | rfl
    · exact fit_flat ha
    · exact fit_flat hb)
theorem rep_map {α β : Type} (f : α → β) (l : List α) : ∀ n, (List.replicate n (l.map f)).flatten = (List.replicate n l).flatten.map f
  | 0 => rfl
  | n + 1 => by rw [List.replicate_succ, List.flatten_cons, rep_map f l n, List.replicate_succ, List.flatten_cons, List.map_append]
theorem rep_len {α : Type} (l : List α) : ∀ n, (List.replicate n l).flatten.length = n * l.length
  | 0 => by simp
  | n + 1 => by rw [List.replicate_succ, List.flatten_cons, List.length_append, rep_len l n, Nat.add_mul, Nat.one_mul, Nat.add_comm]
theorem t_values3 (H : Fns57 G) (h0 : G.k0 ≤ n) {bs : List (Int × Int)} (hb : ∀ b ∈ bs, okBin b) (h1 : 1 ≤ bs.length) (h2 : bs.length ≤ 4)
    (q : ∀ c12 c19 c21 c22 c23 c27 : Option Vl, K.nx [none, some .box, c2, some (.d (.tuple (bs.map bnD))), c4, c5, c6, c7, c8, c9, c10, c11, c12, c13, c14, c15, c16, c17, c18, c19, c20, c21, c22, c23, c24, c25, c26, c27]) : exec (ctx G (n + 10)) s_law_24 [none, some .box, c2, some (.d (.tuple (bs.map bnD))), c4, c5, c6, c7, c8, c9, c10, c11, c12, c13, c14, c15, c16, c17, c18, c19, c20, c21, c22, c23, c24, c25, c26, c27] K := by
  unfold s_law_24
  have hsm := sm_bins hb (by omega)
  obtain ⟨b0, bs', e0⟩ : ∃ b l, bs = b :: l := by
    cases bs with
    | nil => simp at h1
    | cons b l => exact ⟨b, l, rfl⟩
  have hne : bs.map bnD ≠ [] := by rw [e0]; simp
  have hget : (bs.map bnD)[0]? = some (bnD b0) := by rw [e0]; rfl
  trivial
  refine ⟨⟨hne, by omega, by omega, by rw [List.length_map]; omega⟩, ?_⟩
  rw [hget]
  trivial
  refine ⟨by decide, ?_⟩
  refine lcl_goodI (okV 3) 21 rfl (by decide) (fun x hx c k2 hk => ?_) fun ds c hdl hds => ?_
  · trivial
    refine ok_law_bent H.drw (m := n + 6) (by omega) H.pr H.bent 2 _ _ hsm fun d hd => ?_
    trivial
    exact hk d (some (.d x)) hd
  · have hdl : ds.length = 4 := hdl
    refine ⟨by omega, ?_⟩
    refine forL_each (okV 3) (fun ρ => ∃ c12 c19 c21 c22 c23 c27 : Option Vl, ρ = [none, some .box, c2, some (.d (.tuple (bs.map bnD))), c4, c5, c6, c7, c8, c9, c10, c11, c12, c13, c14, c15, c16, c17, c18, c19, c20, c21, c22, c23, c24, c25, c26, c27]) ?_ ⟨_, _, _, _, _, _, rfl⟩ ?_ ?_
    · intro x hx
      simp only [List.mem_cons] at hx
      rcases hx with rfl | rfl | rfl | rfl | rfl | rfl | rfl | rfl | rfl | rfl | rfl | hx
      · exact okV_bins (by omega)
      · rw [show (11 : Int).toNat = 11 from rfl, rep_map]
        exact okV_bins (by rw [rep_len]; omega)
      · exact okV_one rfl rfl
      · exact okV_one rfl rfl
      · exact okV_one rfl rfl
      · exact okV_one rfl rfl
      · exact okV_one rfl rfl
      · exact okV_tup (by simp) fun y hy => by
          simp only [List.mem_cons, List.not_mem_nil, or_false] at hy
          rcases hy with rfl | rfl <;> exact fit_flat rfl
      · exact okV_flat rfl
      · exact flats_okV (by simp) fun x h => by cases h
      · exact okV_flat rfl
      · exact hds x hx
    · rintro v ρ k' hv ⟨c12, c19, c21, c22, c23, c27, rfl⟩ hk
      trivial
      refine t_one hv ?_
      trivial
      refine t_parts hv ?_
      trivial
      refine t_rows H (v := v) (by
        cases v with
        | tuple xs => have := hv.2 xs rfl; show (oneOf (.tuple xs) :: xs).length ≤ 5000; rw [List.length_cons]; omega
        | _ => show 1 ≤ 5000; omega) fun c27 => ?_
      trivial
      refine t_bin_same H hv ?_
      exact hk _ ⟨_, _, _, _, _, _, rfl⟩
    · rintro ρ ⟨c12, c19, c21, c22, c23, c27, rfl⟩
      exact q _ _ _ _ _ _
end

theorem asc_small {r : List Int} {T : Int} {p : Int} (h : Asc p r) (hp : -1 ≤ p) (h2 : ∀ x ∈ r, x ≤ T) (hT : T ≤ 100) : ∀ x ∈ r, x.natAbs ≤ 100 := fun x hx => by
  have := asc_lt h x hx
  have := h2 x hx
  omega
theorem law_of {G : Pg} {n : Nat} (H : Fns57 G) (h0 : G.k0 ≤ n) : execs (ctx G (n + 10)) b_law ((List.replicate n_law.length none).set 1 (some .box)) trueE := by
  rw [show ((List.replicate n_law.length (none : Option Vl)).set 1 (some .box)) = [none, some .box, none, none, none, none, none, none, none, none, none, none, none, none, none, none, none, none, none, none, none, none, none, none, none, none, none, none] from rfl]
  unfold b_law
  rw [ss_cons]
  trivial
  rw [H.c0, H.c1, H.c2, H.c3, H.c4]
  trivial
  rw [show ∀ kB : Bool → Prop, cmpD .NotEq (.tuple [.int 14, .int 10, .int 9, .int 60, .int 60]) (.tuple [.int 14, .int 10, .int 9, .int 60, .int 60]) kB = kB false from fun kB => kand (by show min _ _ ≤ 60; decide +kernel)]
  trivial
  refine ⟨by decide, ?_⟩
  refine forL_each (fun _ => True) (fun ρ => ∃ c2 c3 c4 c5 c6 c7 c8 c9 c10 c11 c12 c13 c14 c15 c16 c17 c18 c19 c20 c21 c22 c23 c24 c25 c26 c27 : Option Vl, ρ = [none, some .box, c2, c3, c4, c5, c6, c7, c8, c9, c10, c11, c12, c13, c14, c15, c16, c17, c18, c19, c20, c21, c22, c23, c24, c25, c26, c27]) (fun _ _ => True.intro) ⟨_, _, _, _, _, _, _, _, _, _, _, _, _, _, _, _, _, _, _, _, _, _, _, _, _, _, rfl⟩ ?_ ?_
  · rintro x ρ k' _ ⟨c2, c3, c4, c5, c6, c7, c8, c9, c10, c11, c12, c13, c14, c15, c16, c17, c18, c19, c20, c21, c22, c23, c24, c25, c26, c27, rfl⟩ hk
    trivial
    unfold s_law_0
    trivial
    refine t_bins H h0 fun bs c4 c16 hb hl1 hl4 => ?_
    trivial
    unfold s_law_2
    trivial
    refine t_most H h0 fun most hm => ?_
    trivial
    refine t_told H hb hl1 hl4 ?_
    trivial
    unfold s_law_5
    trivial
    refine t_lasting H hb hl4 fun c16 c18 c19 c26 => ?_
    trivial
    unfold s_law_7
    trivial
    refine t_least hb hl4 fun c22 => ?_
    trivial
    refine t_same1 H hb hl4 fun c22 => ?_
    trivial
    refine t_good H hl4 hm fun c24 => ?_
    trivial
    refine t_few hb hm fun c24 => ?_
    trivial
    refine t_check1 H hb hl4 hm ?_
    trivial
    refine t_long H h0 fun T hT => ?_
    trivial
    refine t_days H hb hl4 hT ?_
    trivial
    refine t_check2 H hb hl4 hT ?_
    trivial
    have hne : goodL bs most ≠ [] := fun e => by have := few_good hb most; rw [e] at this; cases this
    refine t_some H h0 hne (goodL_len (by omega)) fun r hr => ?_
    trivial
    obtain ⟨g1, g2, g3⟩ := (mem_good hb).mp hr
    have g4 := goodL_mem_len hr
    have f4 := (few_ok hb most).2.2.2
    refine t_values H h0 hb hl1 hl4 hm (by omega) (by omega) (asc_small g1 (by decide) g2 (by omega)) fun c12 c20 c21 c25 => ?_
    trivial
    refine t_w H h0 fun w hw1 hw => ?_
    trivial
    refine t_weeks H hl4 hw fun c24 => ?_
    trivial
    refine t_told2 H hb hl4 hw1 hw ?_
    trivial
    refine t_check3 H hb hl4 hw1 hw fun c24 => ?_
    trivial
    refine t_some2 H h0 (weeks_ne hb hw1) (weeksL_len (by omega)) fun r2 hr2 => ?_
    trivial
    have e4 := weeksL_mem_len hr2
    have e5 := mem_subsN.mp (List.mem_filter.mp hr2).1
    refine t_values2 H h0 hb hl1 hl4 hw (by omega) (asc_small (T := 100) e5.1 (by decide) (fun x hx => by have := e5.2 x hx; omega) (by decide)) fun c12 c21 c24 => ?_
    trivial
    refine t_values3 H h0 hb hl1 hl4 fun c12 c19 c21 c22 c23 c27 => ?_
    exact hk _ ⟨_, _, _, _, _, _, _, _, _, _, _, _, _, _, _, _, _, _, _, _, _, _, _, _, _, _, rfl⟩
  · rintro ρ ⟨c2, c3, c4, c5, c6, c7, c8, c9, c10, c11, c12, c13, c14, c15, c16, c17, c18, c19, c20, c21, c22, c23, c24, c25, c26, c27, rfl⟩
    trivial
    have hb : ∀ b ∈ [((3 : Int), (7 : Int))], okBin b := fun b h => by
      rw [List.mem_singleton.mp h]; unfold okBin; decide
    have fw := fun (kd : D → Prop) => ok_fewest (G := G) (kd := kd) (n := n + 7) H.lasts_for H.least_lasting H.fewest [(3, 7)] hb (by decide) 7 (by decide) (fun k hk => by have := least_pos hb hk; omega)
    refine fw _ ?_
    have e : fewD [((3 : Int), (7 : Int))] 7 = [1, 3, 5] := by decide +kernel
    have e2 : rowD (fewD [((3 : Int), (7 : Int))] 7) = .tuple [.int 1, .int 3, .int 5] := by rw [e]; rfl
    show cmpD .Eq (rowD (fewD [((3 : Int), (7 : Int))] 7)) (.tuple [.int 1, .int 3, .int 5]) fun z => trueE.rt (.bool z)
    rw [e2]
    refine ⟨by show min _ _ ≤ 60; decide +kernel, ?_⟩
    rw [show PyData.eqv (.tuple [.int 1, .int 3, .int 5]) (.tuple [.int 1, .int 3, .int 5]) = true by decide +kernel]
    rfl
theorem law_holds : execs (ctx prog 60) b_law ((List.replicate n_law.length none).set 1 (some .box)) trueE :=
  law_of (G := prog) (n := 50) ⟨rfl, rfl, rfl, rfl, rfl, rfl, rfl, rfl, rfl, rfl, rfl, rfl, rfl, rfl, rfl, rfl, rfl, rfl, rfl, rfl, fun as kd q => ⟨rfl, q⟩, rfl, rfl, rfl, rfl, rfl⟩ (by decide)

abbrev t_lasts_for : Stmt := top 11
abbrev t_least_lasting : Stmt := top 12
abbrev t_fewest_bin_days : Stmt := top 14
abbrev t_is_ascending : Stmt := top 2
abbrev t_is_number : Stmt := top 1
abbrev t_do_week : Stmt := top 16
abbrev t_week_days : Stmt := top 17
abbrev t_is_bin_told : Stmt := top 9
abbrev t_are_bins_told : Stmt := top 10
abbrev t__law_same : Stmt := top 22
abbrev t__law_subsets : Stmt := top 27
abbrev t__law_never_full : Stmt := top 25
abbrev t__law_whole : Stmt := top 24
abbrev t__law_are_days : Stmt := top 26
abbrev t__law_bent : Stmt := top 23
abbrev t__law_turned : Stmt := top 28
abbrev t__law_for_ever : Stmt := top 29
abbrev t_do_days : Stmt := top 13
abbrev t_shows_days : Stmt := top 15
abbrev t_law : Stmt := top 30
theorem c_lasts_for : ckSs tab n_lasts_for (defScope t_lasts_for) (fun _ => true) b_lasts_for (defBody t_lasts_for) = true := by decide +kernel
theorem c_least_lasting : ckSs tab n_least_lasting (defScope t_least_lasting) (fun _ => true) b_least_lasting (defBody t_least_lasting) = true := by decide +kernel
theorem c_fewest_bin_days : ckSs tab n_fewest_bin_days (defScope t_fewest_bin_days) (fun _ => true) b_fewest_bin_days (defBody t_fewest_bin_days) = true := by decide +kernel
theorem c_is_ascending : ckSs tab n_is_ascending (defScope t_is_ascending) (fun _ => true) b_is_ascending (defBody t_is_ascending) = true := by decide +kernel
theorem c_is_number : ckSs tab n_is_number (defScope t_is_number) (fun _ => true) b_is_number (defBody t_is_number) = true := by decide +kernel
theorem c_do_week : ckSs tab n_do_week (defScope t_do_week) (fun _ => true) b_do_week (defBody t_do_week) = true := by decide +kernel
theorem c_week_days : ckSs tab n_week_days (defScope t_week_days) (fun _ => true) b_week_days (defBody t_week_days) = true := by decide +kernel
theorem c_is_bin_told : ckSs tab n_is_bin_told (defScope t_is_bin_told) (fun _ => true) b_is_bin_told (defBody t_is_bin_told) = true := by decide +kernel
theorem c_are_bins_told : ckSs tab n_are_bins_told (defScope t_are_bins_told) (fun _ => true) b_are_bins_told (defBody t_are_bins_told) = true := by decide +kernel
theorem c__law_same : ckSs tab n__law_same (defScope t__law_same) (fun _ => true) b__law_same (defBody t__law_same) = true := by decide +kernel
theorem c__law_subsets : ckSs tab n__law_subsets (defScope t__law_subsets) (fun _ => true) b__law_subsets (defBody t__law_subsets) = true := by decide +kernel
theorem c__law_never_full : ckSs tab n__law_never_full (defScope t__law_never_full) (fun _ => true) b__law_never_full (defBody t__law_never_full) = true := by decide +kernel
theorem c__law_whole : ckSs tab n__law_whole (defScope t__law_whole) (fun _ => true) b__law_whole (defBody t__law_whole) = true := by decide +kernel
theorem c__law_are_days : ckSs tab n__law_are_days (defScope t__law_are_days) (fun _ => true) b__law_are_days (defBody t__law_are_days) = true := by decide +kernel
theorem c__law_bent : ckSs tab n__law_bent (defScope t__law_bent) (fun _ => true) b__law_bent (defBody t__law_bent) = true := by decide +kernel
theorem c__law_turned : ckSs tab n__law_turned (defScope t__law_turned) (fun _ => true) b__law_turned (defBody t__law_turned) = true := by decide +kernel
theorem c__law_for_ever : ckSs tab n__law_for_ever (defScope t__law_for_ever) (fun _ => true) b__law_for_ever (defBody t__law_for_ever) = true := by decide +kernel
theorem c_do_days : ckSs tab n_do_days (defScope t_do_days) (fun _ => true) b_do_days (defBody t_do_days) = true := by decide +kernel
theorem c_shows_days : ckSs tab n_shows_days (defScope t_shows_days) (fun _ => true) b_shows_days (defBody t_shows_days) = true := by decide +kernel
theorem c_law : ckSs tab n_law (defScope t_law) (fun _ => true) b_law (defBody t_law).tail = true := by decide +kernel
section
variable {l : PySem.W.OpenLaw} {w : World} {K : PySem.W.Frag} {mg : Str → Option Value} {h : Heap} {fa : Addr}
theorem all_mk (X : K.In h) (G : h.Ns mainGlobals mg) (hfa : mg "law" = some (.ref fa)) (Dm : Dk K "_law_box" sBox) (Dl : Dk K "_law_load" sLoad) (Dd : Dk K "_law_draw" sDraw) (D_lasts_for : Dk K "lasts_for" t_lasts_for) (D_least_lasting : Dk K "least_lasting" t_least_lasting) (D_fewest_bin_days : Dk K "fewest_bin_days" t_fewest_bin_days) (D_is_ascending : Dk K "is_ascending" t_is_ascending) (D_is_number : Dk K "is_number" t_is_number) (D_do_week : Dk K "do_week" t_do_week) (D_week_days : Dk K "week_days" t_week_days) (D_is_bin_told : Dk K "is_bin_told" t_is_bin_told) (D_are_bins_told : Dk K "are_bins_told" t_are_bins_told) (D__law_same : Dk K "_law_same" t__law_same) (D__law_subsets : Dk K "_law_subsets" t__law_subsets) (D__law_never_full : Dk K "_law_never_full" t__law_never_full) (D__law_whole : Dk K "_law_whole" t__law_whole) (D__law_are_days : Dk K "_law_are_days" t__law_are_days) (D__law_bent : Dk K "_law_bent" t__law_bent) (D__law_turned : Dk K "_law_turned" t__law_turned) (D__law_for_ever : Dk K "_law_for_ever" t__law_for_ever) (D_do_days : Dk K "do_days" t_do_days) (D_shows_days : Dk K "shows_days" t_shows_days) (D_law : Dk K "law" t_law) (Z : AllNo K tab.bis) (zl : PySem.W.nsIn K mainGlobals "len" = some none) (zi : PySem.W.nsIn K mainGlobals "int" = some none) (zs : PySem.W.nsIn K mainGlobals "list" = some none)
    (CC : AllCst K prog.cst 0 tab.csts) (hlaw : execs (ctx prog 60) b_law ((List.replicate n_law.length none).set 1 (some .box)) trueE) : ∃ fd : FuncData, (∀ (s : Shared) (u : Value), BindsTo s fd ⟨[u], []⟩ [("script", u)]) ∧ ∀ base : Heap, K.In base → base.Ns mainGlobals mg → FnOk l.prog w K mg base CX0 61 fa fd ["script"] (lawOk K) := by
  obtain ⟨f0, d0, m0, k0, F0, B0, bt0⟩ := D_law.use (ps := ["script"]) X G (fun _ _ _ _ _ _ us hl => match us, hl with | [_], _ => rfl)
  obtain ⟨f1, d1, m1, k1, F1, B1, _⟩ := Dm.use (ps := ["script"]) X G (fun _ _ _ _ _ _ us hl => match us, hl with | [_], _ => rfl)
  obtain ⟨f2, d2, m2, k2, F2, B2, _⟩ := Dl.use (ps := ["box"]) X G (fun _ _ _ _ _ _ us hl => match us, hl with | [_], _ => rfl)
  obtain ⟨f3, d3, m3, k3, F3, B3, _⟩ := Dd.use (ps := ["box", "many"]) X G (fun _ _ _ _ _ _ us hl => match us, hl with | [_, _], _ => rfl)
  have e := hfa.symm.trans m0
  cases e
  have nl : mg "len" = none := PySem.W.mg_none_of X G zl
  have ni : mg "int" = none := PySem.W.mg_none_of X G zi
  have ns : mg "list" = none := PySem.W.mg_none_of X G zs
  refine ⟨d0, fun s u => bt0 s [u] rfl, fun base _ _ => ?_⟩
  have nm : Names K mg tab prog := ⟨fun x q => Z.at X G x q, fun c x q => by have r := CC.at X G c x q; rw [Nat.zero_add] at r; exact r⟩
  have FL : FnOk l.prog w K mg base CX0 1 f2 d2 ["box"] spLoad := ok_load F2 ni nl
  have FD : FnOk l.prog w K mg base CX0 2 f3 d3 ["box", "many"] (spDraw bxOk) := ok_draw F3 ni FL m2 k2 B2
  have dk : AllDef l.prog w K mg base tab boxI prog tab.fns :=
    .cons (def_of (ps := ["one"]) (N := n_lasts_for) D_lasts_for X G (fun _ _ _ _ _ _ us hl => match us, hl with | [_], _ => rfl) rfl rfl (by decide +kernel) c_lasts_for)
    (.cons (def_of (ps := ["bins"]) (N := n_least_lasting) D_least_lasting X G (fun _ _ _ _ _ _ us hl => match us, hl with | [_], _ => rfl) rfl rfl (by decide +kernel) c_least_lasting)
    (.cons (def_of (ps := ["bins", "T"]) (N := n_fewest_bin_days) D_fewest_bin_days X G (fun _ _ _ _ _ _ us hl => match us, hl with | [_, _], _ => rfl) rfl rfl (by decide +kernel) c_fewest_bin_days)
    (.cons (def_of (ps := ["rows"]) (N := n_is_ascending) D_is_ascending X G (fun _ _ _ _ _ _ us hl => match us, hl with | [_], _ => rfl) rfl rfl (by decide +kernel) c_is_ascending)
    (.cons (def_of (ps := ["value", "least", "most"]) (N := n_is_number) D_is_number X G (fun _ _ _ _ _ _ us hl => match us, hl with | [_, _, _], _ => rfl) rfl rfl (by decide +kernel) c_is_number)
    (.cons (def_of (ps := ["bins", "w", "value"]) (N := n_do_week) D_do_week X G (fun _ _ _ _ _ _ us hl => match us, hl with | [_, _, _], _ => rfl) rfl rfl (by decide +kernel) c_do_week)
    (.cons (def_of (ps := ["bins", "w"]) (N := n_week_days) D_week_days X G (fun _ _ _ _ _ _ us hl => match us, hl with | [_, _], _ => rfl) rfl rfl (by decide +kernel) c_week_days)
    (.cons (def_of (ps := ["value"]) (N := n_is_bin_told) D_is_bin_told X G (fun _ _ _ _ _ _ us hl => match us, hl with | [_], _ => rfl) rfl rfl (by decide +kernel) c_is_bin_told)
    (.cons (def_of (ps := ["value"]) (N := n_are_bins_told) D_are_bins_told X G (fun _ _ _ _ _ _ us hl => match us, hl with | [_], _ => rfl) rfl rfl (by decide +kernel) c_are_bins_told)
    (.cons (def_of (ps := ["a", "b"]) (N := n__law_same) D__law_same X G (fun _ _ _ _ _ _ us hl => match us, hl with | [_, _], _ => rfl) rfl rfl (by decide +kernel) c__law_same)
    (.cons (def_of (ps := ["row"]) (N := n__law_subsets) D__law_subsets X G (fun _ _ _ _ _ _ us hl => match us, hl with | [_], _ => rfl) rfl rfl (by decide +kernel) c__law_subsets)
    (.cons (def_of (ps := ["bins", "most", "days"]) (N := n__law_never_full) D__law_never_full X G (fun _ _ _ _ _ _ us hl => match us, hl with | [_, _, _], _ => rfl) rfl rfl (by decide +kernel) c__law_never_full)
    (.cons (def_of (ps := ["value", "low", "high"]) (N := n__law_whole) D__law_whole X G (fun _ _ _ _ _ _ us hl => match us, hl with | [_, _, _], _ => rfl) rfl rfl (by decide +kernel) c__law_whole)
    (.cons (def_of (ps := ["low", "high", "value"]) (N := n__law_are_days) D__law_are_days X G (fun _ _ _ _ _ _ us hl => match us, hl with | [_, _, _], _ => rfl) rfl rfl (by decide +kernel) c__law_are_days)
    (.cons (def_of (ps := ["box", "value"]) (N := n__law_bent) D__law_bent X G (fun _ _ _ _ _ _ us hl => match us, hl with | [_, _], _ => rfl) rfl rfl (by decide +kernel) c__law_bent)
    (.cons (def_of (ps := ["days", "w"]) (N := n__law_turned) D__law_turned X G (fun _ _ _ _ _ _ us hl => match us, hl with | [_, _], _ => rfl) rfl rfl (by decide +kernel) c__law_turned)
    (.cons (def_of (ps := ["bins", "w", "days"]) (N := n__law_for_ever) D__law_for_ever X G (fun _ _ _ _ _ _ us hl => match us, hl with | [_, _, _], _ => rfl) rfl rfl (by decide +kernel) c__law_for_ever)
    (.cons (def_of (ps := ["bins", "T", "value"]) (N := n_do_days) D_do_days X G (fun _ _ _ _ _ _ us hl => match us, hl with | [_, _, _], _ => rfl) rfl rfl (by decide +kernel) c_do_days)
    (.cons (def_of (ps := ["bins", "T", "days", "k"]) (N := n_shows_days) D_shows_days X G (fun _ _ _ _ _ _ us hl => match us, hl with | [_, _, _, _], _ => rfl) rfl rfl (by decide +kernel) c_shows_days)
    (.cons ⟨f3, d3, _, m3, k3, B3, rfl, .inr ⟨rfl, FD.imp fun vs H Q E q => draw_imp (fun as kd q => q.2) q⟩⟩ .nil)))))))))))))))))))
  exact law_ok (T := tab) (BI := boxI) (G := prog) (n := 60) (i := 1) (mk := "_law_box") nm dk.at F0 (scK_of (N := n_law) (by decide +kernel)) (st0 := (defBody t_law).head (by decide +kernel)) (rest := (defBody t_law).tail) (List.cons_head_tail _).symm (by decide +kernel) (ok_box F1 ns nl) m1 k1 B1 (by decide) (by decide) (by decide) c_law hlaw
end
end DD
open PySem PySem.W PyProof.Rows
set_option maxRecDepth 100000 in
set_option maxHeartbeats 0 in
theorem PySem.Challenge.cw_streetsswept_k57_whole_bin_days_holds : PySem.Challenge.rw_streetsswept_k57_whole_bin_days.Holds := by
  w_on; o_law; k_head; (case hw => w_witness2)
  k_fill
  refine DD.walk_law (l := PySem.Challenge.rw_streetsswept_k57_whole_bin_days) (n := 61) (sx := "script") rfl (by decide) rfl ⟨rfl, by decide, by decide⟩ (fun w h Y => PySem.W.kIn_of Y) ?F
  case F =>
    intro w mg fa h KX G hmg
    refine' DD.all_mk KX G hmg ?Dm ?Dl ?Dd ?D_lasts_for ?D_least_lasting ?D_fewest_bin_days ?D_is_ascending ?D_is_number ?D_do_week ?D_week_days ?D_is_bin_told ?D_are_bins_told ?D__law_same ?D__law_subsets ?D__law_never_full ?D__law_whole ?D__law_are_days ?D__law_bent ?D__law_turned ?D__law_for_ever ?D_do_days ?D_shows_days ?D_law ?Z ?zl ?zi ?zs ?CC DD.law_holds
    case Dm => (refine' DD.dk_mk ?a ?l ?c ?k; (case a => k_is); (case l => k_is); (case c => k_is); (case k => k_is))
    case Dl => (refine' DD.dk_mk ?a ?l ?c ?k; (case a => k_is); (case l => k_is); (case c => k_is); (case k => k_is))
    case Dd => (refine' DD.dk_mk ?a ?l ?c ?k; (case a => k_is); (case l => k_is); (case c => k_is); (case k => k_is))
    case D_lasts_for => (refine' DD.dk_mk ?a ?l ?c ?k; (case a => k_is); (case l => k_is); (case c => k_is); (case k => k_is))
    case D_least_lasting => (refine' DD.dk_mk ?a ?l ?c ?k; (case a => k_is); (case l => k_is); (case c => k_is); (case k => k_is))
    case D_fewest_bin_days => (refine' DD.dk_mk ?a ?l ?c ?k; (case a => k_is); (case l => k_is); (case c => k_is); (case k => k_is))
    case D_is_ascending => (refine' DD.dk_mk ?a ?l ?c ?k; (case a => k_is); (case l => k_is); (case c => k_is); (case k => k_is))
    case D_is_number => (refine' DD.dk_mk ?a ?l ?c ?k; (case a => k_is); (case l => k_is); (case c => k_is); (case k => k_is))
    case D_do_week => (refine' DD.dk_mk ?a ?l ?c ?k; (case a => k_is); (case l => k_is); (case c => k_is); (case k => k_is))
    case D_week_days => (refine' DD.dk_mk ?a ?l ?c ?k; (case a => k_is); (case l => k_is); (case c => k_is); (case k => k_is))
    case D_is_bin_told => (refine' DD.dk_mk ?a ?l ?c ?k; (case a => k_is); (case l => k_is); (case c => k_is); (case k => k_is))
    case D_are_bins_told => (refine' DD.dk_mk ?a ?l ?c ?k; (case a => k_is); (case l => k_is); (case c => k_is); (case k => k_is))
    case D__law_same => (refine' DD.dk_mk ?a ?l ?c ?k; (case a => k_is); (case l => k_is); (case c => k_is); (case k => k_is))
    case D__law_subsets => (refine' DD.dk_mk ?a ?l ?c ?k; (case a => k_is); (case l => k_is); (case c => k_is); (case k => k_is))
    case D__law_never_full => (refine' DD.dk_mk ?a ?l ?c ?k; (case a => k_is); (case l => k_is); (case c => k_is); (case k => k_is))
    case D__law_whole => (refine' DD.dk_mk ?a ?l ?c ?k; (case a => k_is); (case l => k_is); (case c => k_is); (case k => k_is))
    case D__law_are_days => (refine' DD.dk_mk ?a ?l ?c ?k; (case a => k_is); (case l => k_is); (case c => k_is); (case k => k_is))
    case D__law_bent => (refine' DD.dk_mk ?a ?l ?c ?k; (case a => k_is); (case l => k_is); (case c => k_is); (case k => k_is))
    case D__law_turned => (refine' DD.dk_mk ?a ?l ?c ?k; (case a => k_is); (case l => k_is); (case c => k_is); (case k => k_is))
    case D__law_for_ever => (refine' DD.dk_mk ?a ?l ?c ?k; (case a => k_is); (case l => k_is); (case c => k_is); (case k => k_is))
    case D_do_days => (refine' DD.dk_mk ?a ?l ?c ?k; (case a => k_is); (case l => k_is); (case c => k_is); (case k => k_is))
    case D_shows_days => (refine' DD.dk_mk ?a ?l ?c ?k; (case a => k_is); (case l => k_is); (case c => k_is); (case k => k_is))
    case D_law => (refine' DD.dk_mk ?a ?l ?c ?k; (case a => k_is); (case l => k_is); (case c => k_is); (case k => k_is))
    case Z => (refine' .cons ?z0 (.cons ?z1 (.cons ?z2 (.cons ?z3 (.cons ?z4 (.cons ?z5 (.cons ?z6 (.cons ?z7 (.cons ?z8 (.cons ?z9 (.cons ?z10 (.cons ?z11 (.cons ?z12 (.cons ?z13 (.nil)))))))))))))); (case z0 => k_is); (case z1 => k_is); (case z2 => k_is); (case z3 => k_is); (case z4 => k_is); (case z5 => k_is); (case z6 => k_is); (case z7 => k_is); (case z8 => k_is); (case z9 => k_is); (case z10 => k_is); (case z11 => k_is); (case z12 => k_is); (case z13 => k_is))
    case zl => k_is
    case zi => k_is
    case zs => k_is
    case CC => (refine' DD.cst_int (n := 10) ?c0 rfl (DD.cst_int (n := 60) ?c1 rfl (DD.cst_int (n := 9) ?c2 rfl (DD.cst_int (n := 60) ?c3 rfl (DD.cst_int (n := 14) ?c4 rfl (.nil))))); (case c0 => k_is); (case c1 => k_is); (case c2 => k_is); (case c3 => k_is); (case c4 => k_is))
