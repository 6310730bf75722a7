import PyProof.Rows.All
import Wide.All
import OpenK.AllK
import Wide.FinOn
import HandS.ForMost
import HandS.Walk
import HandS.Flow
import HandS.Defaults
import HandS.Exc
import HandS.ExcInit
import HandS.Wide
import HandS.IsInst
import HandS.Deep
import HandS.TupAny
import HandS.TupMul
import HandS.Zip
import HandS.WordsExc
import HandS.HeadHook2
import HandS.HeadEnd
import KE.KStateDown
import HandS.Head0
import HandS.Head1
import HandS.Head2
import HandS.HeadHook1
import PySem.Challenge.RW_islefade_k01_places
section
set_option Elab.async false
set_option linter.all false
set_option maxRecDepth 100000
set_option maxHeartbeats 2000000
/-! ICore: data, owned values, how the heap bears them; the state, its steps; readings of computations. -/
namespace IR
open PySem PySem.Spec L2

/-! ### data -/
inductive D where
  | non | bl (b : Bool) | int (i : Int) | str (x : Str)
  | tup (xs : List D) | lst (xs : List D) | dic (kvs : List (D × D)) | obj (c : Nat) (fs : List D)
  | rol (xs : List D)
/-- owned values: what one name alone holds and may change -/
inductive OV where
  | d (x : D) | lst (xs : List OV) | dic (kvs : List (D × D)) | obj (c : Nat) (fs : List OV)
mutual
def OV.fz : OV → D
  | .d x => x
  | .lst xs => .lst (OV.fzs xs)
  | .dic kvs => .dic kvs
  | .obj c fs => .obj c (OV.fzs fs)
def OV.fzs : List OV → List D
  | [] => []
  | o :: os => o.fz :: OV.fzs os
end
theorem fzs_map : ∀ os : List OV, OV.fzs os = os.map OV.fz
  | [] => by simp [OV.fzs]
  | o :: os => by simp [OV.fzs, fzs_map os]
theorem fzs_d : ∀ xs : List D, OV.fzs (xs.map OV.d) = xs
  | [] => by simp [OV.fzs]
  | x :: xs => by simp [OV.fzs, OV.fz, fzs_d xs]

/-- the written part and the classes: each number's class, its attributes' names in order -/
structure Tbl where
  K : PySem.W.Frag
  cls : Nat → Option (Addr × List Str)
def kD : Key → D
  | .inl i => .int i
  | .inr x => .str x

/-! ### how a heap bears data (F: the part that no one changes) -/
mutual
inductive RD (T : Tbl) (F : Hp) : V → D → Prop
  | non : RD T F .non .non
  | bl (b : Bool) : RD T F (.bl b) (.bl b)
  | int (i : Int) : RD T F (.int i) (.int i)
  | str (x : Str) : RD T F (.str x) (.str x)
  | tup {a : Addr} {vs : List V} {ds : List D} : SqT T.K F a vs → RDs T F vs ds → RD T F (.ref a) (.tup ds)
  | lst {a : Addr} {vs : List V} {ds : List D} : F a = some (.lst vs) → RDs T F vs ds → RD T F (.ref a) (.lst ds)
  | rol {a : Addr} {vs : List V} {ds : List D} : SqL T.K F a vs → RDs T F vs ds → RD T F (.ref a) (.rol ds)
  | dK {a : Addr} {kvs : List (Key × V)} {ds : List D} : F a = some (.dK kvs) → RDs T F (kvs.map (·.2)) ds → RD T F (.ref a) (.dic ((kvs.map fun p => kD p.1).zip ds))
  | dT {a : Addr} {kvs : List (List Key × V)} {ds : List D} : F a = some (.dT kvs) → RDs T F (kvs.map (·.2)) ds → RD T F (.ref a) (.dic ((kvs.map fun p => D.tup (p.1.map kD)).zip ds))
  | obj {a C dx : Addr} {c : Nat} {ns : List Str} {vs : List V} {ds : List D} : T.cls c = some (C, ns) → F a = some (.ins C dx (ns.zip vs)) → vs.length ≤ ns.length → RDs T F vs ds → RD T F (.ref a) (.obj c ds)
inductive RDs (T : Tbl) (F : Hp) : List V → List D → Prop
  | nil : RDs T F [] []
  | cons {v : V} {vs : List V} {x : D} {xs : List D} : RD T F v x → RDs T F vs xs → RDs T F (v :: vs) (x :: xs)
end
/-! .. owned values, with the addresses that they own -/
mutual
inductive RO (T : Tbl) (F H : Hp) : V → OV → List Addr → Prop
  | d {v : V} {x : D} : RD T F v x → RO T F H v (.d x) []
  | lst {a : Addr} {vs : List V} {os : List OV} {fp : List Addr} : H a = some (.lst vs) → ROs T F H vs os fp → RO T F H (.ref a) (.lst os) (a :: fp)
  | dK {a : Addr} {kvs : List (Key × V)} {ds : List D} : H a = some (.dK kvs) → RDs T F (kvs.map (·.2)) ds → RO T F H (.ref a) (.dic ((kvs.map fun p => kD p.1).zip ds)) [a]
  | dT {a : Addr} {kvs : List (List Key × V)} {ds : List D} : H a = some (.dT kvs) → RDs T F (kvs.map (·.2)) ds → RO T F H (.ref a) (.dic ((kvs.map fun p => D.tup (p.1.map kD)).zip ds)) [a]
  | obj {a C dx : Addr} {c : Nat} {ns : List Str} {vs : List V} {os : List OV} {fp : List Addr} : T.cls c = some (C, ns) → H a = some (.ins C dx (ns.zip vs)) → vs.length ≤ ns.length → ROs T F H vs os fp → RO T F H (.ref a) (.obj c os) (a :: fp)
inductive ROs (T : Tbl) (F H : Hp) : List V → List OV → List Addr → Prop
  | nil : ROs T F H [] [] []
  | cons {v : V} {vs : List V} {o : OV} {os : List OV} {fp fq : List Addr} : RO T F H v o fp → ROs T F H vs os fq → ROs T F H (v :: vs) (o :: os) (fp ++ fq)
end
section
variable {T : Tbl} {F F' H H' : Hp}
theorem sqT_mono (h : Same F F') {a : Addr} {xs : List V} (q : SqT T.K F a xs) : SqT T.K F' a xs := by
  rcases q with (q | ⟨o, q⟩) | q
  · exact .inl (.inl (h _ _ q))
  · exact .inl (.inr ⟨o, h _ _ q⟩)
  · exact .inr q
theorem rd_mono (h : Same F F') {a : Addr} {u : HO} (q : Rd F a u) : Rd F' a u := by
  rcases q with q | ⟨o, q⟩
  · exact .inl (h _ _ q)
  · exact .inr ⟨o, h _ _ q⟩
mutual
theorem RD.mono (h : Same F F') : ∀ {v : V} {d : D}, RD T F v d → RD T F' v d
  | _, _, .non => .non
  | _, _, .bl b => .bl b
  | _, _, .int i => .int i
  | _, _, .str x => .str x
  | _, _, .tup q r => .tup (sqT_mono h q) (RDs.mono h r)
  | _, _, .lst q r => .lst (h _ _ q) (RDs.mono h r)
  | _, _, .rol q r => .rol (h.seq q) (RDs.mono h r)
  | _, _, .dK q r => .dK (h _ _ q) (RDs.mono h r)
  | _, _, .dT q r => .dT (h _ _ q) (RDs.mono h r)
  | _, _, .obj c q l r => .obj c (h _ _ q) l (RDs.mono h r)
theorem RDs.mono (h : Same F F') : ∀ {vs : List V} {ds : List D}, RDs T F vs ds → RDs T F' vs ds
  | _, _, .nil => .nil
  | _, _, .cons q r => .cons (RD.mono h q) (RDs.mono h r)
end
theorem RDs.length : ∀ {vs : List V} {ds : List D}, RDs T F vs ds → vs.length = ds.length
  | _, _, .nil => rfl
  | _, _, .cons _ r => by simp [RDs.length r]
theorem RDs.get : ∀ {vs : List V} {ds : List D} {i : Nat} {x : D}, RDs T F vs ds → ds[i]? = some x → ∃ v, vs[i]? = some v ∧ RD T F v x
  | _, _, _, _, .nil, e => by simp at e
  | _, _, 0, _, .cons q _, e => by simp at e; subst e; exact ⟨_, rfl, q⟩
  | _, _, i + 1, _, .cons _ r, e => by
    obtain ⟨v, h1, h2⟩ := RDs.get (i := i) r (by simpa using e)
    exact ⟨v, by simpa using h1, h2⟩
theorem RDs.get' : ∀ {vs : List V} {ds : List D} {i : Nat} {v : V}, RDs T F vs ds → vs[i]? = some v → ∃ x, ds[i]? = some x ∧ RD T F v x
  | _, _, _, _, .nil, e => by simp at e
  | _, _, 0, _, .cons q _, e => by simp at e; subst e; exact ⟨_, rfl, q⟩
  | _, _, i + 1, _, .cons _ r, e => by
    obtain ⟨v, h1, h2⟩ := RDs.get' (i := i) r (by simpa using e)
    exact ⟨v, by simpa using h1, h2⟩
theorem RDs.append : ∀ {vs ws : List V} {ds es : List D}, RDs T F vs ds → RDs T F ws es → RDs T F (vs ++ ws) (ds ++ es)
  | _, _, _, _, .nil, s => s
  | _, _, _, _, .cons q r, s => .cons q (RDs.append r s)
theorem RDs.take : ∀ {vs : List V} {ds : List D} (n : Nat), RDs T F vs ds → RDs T F (vs.take n) (ds.take n)
  | _, _, 0, _ => .nil
  | _, _, _ + 1, .nil => .nil
  | _, _, n + 1, .cons q r => .cons q (RDs.take n r)
theorem RDs.drop : ∀ {vs : List V} {ds : List D} (n : Nat), RDs T F vs ds → RDs T F (vs.drop n) (ds.drop n)
  | _, _, 0, r => r
  | _, _, _ + 1, .nil => .nil
  | _, _, n + 1, .cons _ r => RDs.drop n r
theorem RDs.set {v : V} {x : D} (q : RD T F v x) : ∀ {vs : List V} {ds : List D} (n : Nat), RDs T F vs ds → RDs T F (vs.set n v) (ds.set n x)
  | _, _, _, .nil => .nil
  | _, _, 0, .cons _ r => .cons q r
  | _, _, n + 1, .cons p r => .cons p (RDs.set q n r)
theorem RDs.reverse : ∀ {vs : List V} {ds : List D}, RDs T F vs ds → RDs T F vs.reverse ds.reverse
  | _, _, .nil => .nil
  | _, _, .cons q r => by simpa using (RDs.reverse r).append (.cons q .nil)
theorem RDs.eraseIdx : ∀ {vs : List V} {ds : List D} (n : Nat), RDs T F vs ds → RDs T F (vs.eraseIdx n) (ds.eraseIdx n)
  | _, _, _, .nil => .nil
  | _, _, 0, .cons _ r => r
  | _, _, n + 1, .cons p r => .cons p (RDs.eraseIdx n r)

/-! ### owned values where the heap has changed elsewhere -/
mutual
theorem RO.mono (h : Same F F') : ∀ {v : V} {o : OV} {fp : List Addr}, RO T F H v o fp → (∀ a ∈ fp, H' a = H a) → RO T F' H' v o fp
  | _, _, _, .d q, _ => .d (q.mono h)
  | _, _, _, .lst q r, k => .lst ((k _ List.mem_cons_self).trans q) (ROs.mono h r fun a ha => k a (List.mem_cons_of_mem _ ha))
  | _, _, _, .dK q r, k => .dK ((k _ List.mem_cons_self).trans q) (r.mono h)
  | _, _, _, .dT q r, k => .dT ((k _ List.mem_cons_self).trans q) (r.mono h)
  | _, _, _, .obj c q l r, k => .obj c ((k _ List.mem_cons_self).trans q) l (ROs.mono h r fun a ha => k a (List.mem_cons_of_mem _ ha))
theorem ROs.mono (h : Same F F') : ∀ {vs : List V} {os : List OV} {fp : List Addr}, ROs T F H vs os fp → (∀ a ∈ fp, H' a = H a) → ROs T F' H' vs os fp
  | _, _, _, .nil, _ => .nil
  | _, _, _, .cons q r, k => .cons (RO.mono h q fun a ha => k a (List.mem_append_left _ ha)) (ROs.mono h r fun a ha => k a (List.mem_append_right _ ha))
end
mutual
theorem RO.live : ∀ {v : V} {o : OV} {fp : List Addr}, RO T F H v o fp → ∀ a ∈ fp, H a ≠ none
  | _, _, _, .d q, a, h => by simp at h
  | _, _, _, .lst q r, a, h => by
    rcases List.mem_cons.mp h with rfl | h
    · rw [q]; simp
    · exact ROs.live r a h
  | _, _, _, .dK q r, a, h => by
    rcases List.mem_cons.mp h with rfl | h
    · rw [q]; simp
    · simp at h
  | _, _, _, .dT q r, a, h => by
    rcases List.mem_cons.mp h with rfl | h
    · rw [q]; simp
    · simp at h
  | _, _, _, .obj c q l r, a, h => by
    rcases List.mem_cons.mp h with rfl | h
    · rw [q]; simp
    · exact ROs.live r a h
theorem ROs.live : ∀ {vs : List V} {os : List OV} {fp : List Addr}, ROs T F H vs os fp → ∀ a ∈ fp, H a ≠ none
  | _, _, _, .nil, a, h => by simp at h
  | _, _, _, .cons q r, a, h => by
    rcases List.mem_append.mp h with h | h
    · exact RO.live q a h
    · exact ROs.live r a h
end
theorem ROs.length : ∀ {vs : List V} {os : List OV} {fp : List Addr}, ROs T F H vs os fp → vs.length = os.length
  | _, _, _, .nil => rfl
  | _, _, _, .cons _ r => by simp [ROs.length r]
/-- F and what stands in H at fp -/
def addF (F H : Hp) (fp : List Addr) : Hp := fun b => if b ∈ fp then H b else F b
theorem addF_sub {fp : List Addr} (h : ∀ a ∈ fp, F a = none) : Same F (addF F H fp) := fun b o e => by
  unfold addF
  by_cases hb : b ∈ fp
  · rw [h b hb] at e; cases e
  · rw [if_neg hb]; exact e
theorem addF_le {fp : List Addr} (h : Same F H) : Same (addF F H fp) H := fun b o e => by
  unfold addF at e
  by_cases hb : b ∈ fp
  · rw [if_pos hb] at e; exact e
  · rw [if_neg hb] at e; exact h b o e
theorem addF_at {fp : List Addr} {a : Addr} (h : a ∈ fp) : addF F H fp a = H a := by unfold addF; rw [if_pos h]
theorem addF_ne {fp : List Addr} {a : Addr} (h : a ∉ fp) : addF F H fp a = F a := by unfold addF; rw [if_neg h]
mutual
theorem RO.fz {G : Hp} (h : Same F G) : ∀ {v : V} {o : OV} {fp : List Addr}, RO T F H v o fp → (∀ a ∈ fp, G a = H a) → RD T G v o.fz
  | _, _, _, .d q, _ => by unfold OV.fz; exact q.mono h
  | _, _, _, .lst q r, k => by unfold OV.fz; exact .lst ((k _ List.mem_cons_self).trans q) (ROs.fz h r fun a ha => k a (List.mem_cons_of_mem _ ha))
  | _, _, _, .dK q r, k => by unfold OV.fz; exact .dK ((k _ List.mem_cons_self).trans q) (r.mono h)
  | _, _, _, .dT q r, k => by unfold OV.fz; exact .dT ((k _ List.mem_cons_self).trans q) (r.mono h)
  | _, _, _, .obj c q l r, k => by unfold OV.fz; exact .obj c ((k _ List.mem_cons_self).trans q) l (ROs.fz h r fun a ha => k a (List.mem_cons_of_mem _ ha))
theorem ROs.fz {G : Hp} (h : Same F G) : ∀ {vs : List V} {os : List OV} {fp : List Addr}, ROs T F H vs os fp → (∀ a ∈ fp, G a = H a) → RDs T G vs (OV.fzs os)
  | _, _, _, .nil, _ => by unfold OV.fzs; exact .nil
  | _, _, _, .cons q r, k => by unfold OV.fzs; exact .cons (RO.fz h q fun a ha => k a (List.mem_append_left _ ha)) (ROs.fz h r fun a ha => k a (List.mem_append_right _ ha))
end
theorem ROs.of_ds : ∀ {vs : List V} {ds : List D}, RDs T F vs ds → ROs T F H vs (ds.map OV.d) []
  | _, _, .nil => .nil
  | _, _, .cons q r => .cons (fp := []) (fq := []) (.d q) (ROs.of_ds r)
end
end IR
end
section
set_option Elab.async false
set_option linter.all false
set_option maxRecDepth 100000
set_option maxHeartbeats 2000000
/-! IState: the state of a computation, its steps, computations and their readings. -/
namespace IR
open PySem PySem.Spec L2

abbrev En := List (Option OV)
/-- the state: F stands for ever; each name's value, its footprint -/
structure Ok (T : Tbl) (F : Hp) (ρ : En) (fps : List (List Addr)) (σ : St) (H : Hp) : Prop where
  sub : Same F H
  ls : ρ.length = σ.length
  lf : fps.length = ρ.length
  slot : ∀ (i : Nat) (o : OV), ρ[i]? = some (some o) → ∃ v fp, σ[i]? = some (some v) ∧ fps[i]? = some fp ∧ RO T F H v o fp
  nd : fps.flatten.Nodup
  fr : ∀ a ∈ fps.flatten, F a = none
  live : ∀ a ∈ fps.flatten, H a ≠ none
/-- a step: what stood for ever stands; what nobody owned is kept; what is owned was owned or is new; what stands for ever now did, was owned or is new -/
structure Stp (F : Hp) (O : List Addr) (H : Hp) (F' : Hp) (O' : List Addr) (H' : Hp) : Prop where
  mono : Same F F'
  keep : ∀ b o, H b = some o → b ∉ O → H' b = some o
  own : ∀ b ∈ O', b ∈ O ∨ H b = none
  new : ∀ b, F' b ≠ none → F b ≠ none ∨ b ∈ O ∨ H b = none
  stay : ∀ b, H b ≠ none → H' b ≠ none
section
variable {T : Tbl} {F F1 F2 H H1 H2 : Hp} {O O1 O2 : List Addr} {ρ : En} {fps : List (List Addr)} {σ : St}
theorem Stp.refl : Stp F O H F O H := ⟨Same.refl _, fun _ _ e _ => e, fun _ h => .inl h, fun _ h => .inl h, fun _ h => h⟩
theorem Stp.trans (a : Stp F O H F1 O1 H1) (b : Stp F1 O1 H1 F2 O2 H2) : Stp F O H F2 O2 H2 := by
  have back : ∀ c, c ∉ O → H1 c = none → H c = none := fun c hc e => by
    cases q : H c with
    | none => rfl
    | some o => rw [a.keep c o q hc] at e; cases e
  refine ⟨a.mono.trans b.mono, fun c o e hc => ?_, fun c hc => ?_, fun c hc => ?_, fun c hc => b.stay c (a.stay c hc)⟩
  · have h1 : c ∉ O1 := fun z => by
      rcases a.own c z with z | z
      · exact hc z
      · rw [e] at z; cases z
    exact b.keep c o (a.keep c o e hc) h1
  · rcases b.own c hc with z | z
    · exact a.own c z
    · by_cases hO : c ∈ O
      · exact .inl hO
      · exact .inr (back c hO z)
  · rcases b.new c hc with z | z | z
    · exact a.new c z
    · rcases a.own c z with z | z
      · exact .inr (.inl z)
      · exact .inr (.inr z)
    · by_cases hO : c ∈ O
      · exact .inr (.inl hO)
      · exact .inr (.inr (back c hO z))
theorem Stp.less (a : Stp F O H F1 O1 H1) (h : ∀ b ∈ O2, b ∈ O1) : Stp F O H F1 O2 H1 := ⟨a.mono, a.keep, fun b hb => a.own b (h b hb), a.new, a.stay⟩
/-- nothing but new objects -/
theorem Stp.kept (k : Same H H1) : Stp F O H F O H1 := ⟨Same.refl _, fun b o e _ => k b o e, fun _ h => .inl h, fun _ h => .inl h, fun b h e => by
  cases q : H b with
  | none => exact h q
  | some o => rw [k b o q] at e; cases e⟩

theorem mem_flat {fps : List (List Addr)} {i : Nat} {fp : List Addr} {a : Addr} (e : fps[i]? = some fp) (h : a ∈ fp) : a ∈ fps.flatten :=
  List.mem_flatten.mpr ⟨fp, List.mem_of_getElem? e, h⟩
/-- only new objects: the names' values are as they were -/
theorem Ok.kept (k : Ok T F ρ fps σ H) (h : Same H H1) : Ok T F ρ fps σ H1 := by
  refine ⟨k.sub.trans h, k.ls, k.lf, fun i o e => ?_, k.nd, k.fr, fun a ha e => ?_⟩
  · obtain ⟨v, fp, h1, h2, r⟩ := k.slot i o e
    refine ⟨v, fp, h1, h2, r.mono (Same.refl _) fun a ha => ?_⟩
    have l := r.live a ha
    cases q : H a with
    | none => exact absurd q l
    | some u => exact h a u q
  · cases q : H a with
    | none => exact k.live a ha q
    | some u => rw [h a u q] at e; cases e
/-- F grows by addresses that no one owns -/
theorem Ok.grow (k : Ok T F ρ fps σ H) (h : Same F F1) (h1 : Same F1 H) (hn : ∀ a ∈ fps.flatten, F1 a = none) : Ok T F1 ρ fps σ H :=
  ⟨h1, k.ls, k.lf, fun i o e => by
    obtain ⟨v, fp, e1, e2, r⟩ := k.slot i o e
    exact ⟨v, fp, e1, e2, r.mono h fun _ _ => rfl⟩, k.nd, hn, k.live⟩
theorem flat_set_sub {fps : List (List Addr)} {i : Nat} {fp : List Addr} {a : Addr} (h : a ∈ (fps.set i fp).flatten) : a ∈ fp ∨ a ∈ fps.flatten := by
  obtain ⟨g, hg, ha⟩ := List.mem_flatten.mp h
  rcases List.mem_or_eq_of_mem_set hg with z | z
  · exact .inr (List.mem_flatten.mpr ⟨g, z, ha⟩)
  · exact .inl (z ▸ ha)
theorem flat_set_nodup : ∀ {fps : List (List Addr)} {i : Nat} {fp : List Addr}, fps.flatten.Nodup → fp.Nodup → (∀ a ∈ fp, ∀ j g, j ≠ i → fps[j]? = some g → a ∉ g) → (fps.set i fp).flatten.Nodup
  | [], i, fp, _, _, _ => by simp
  | g :: fps, 0, fp, h, h1, h2 => by
    rw [List.set_cons_zero, List.flatten_cons, List.nodup_append]
    rw [List.flatten_cons, List.nodup_append] at h
    refine ⟨h1, h.2.1, fun a ha b hb e => ?_⟩
    subst e
    obtain ⟨g', hg', ha'⟩ := List.mem_flatten.mp hb
    obtain ⟨j, hj⟩ := List.getElem?_of_mem hg'
    exact h2 a ha (j + 1) g' (by omega) (by simpa using hj) ha'
  | g :: fps, i + 1, fp, h, h1, h2 => by
    rw [List.set_cons_succ, List.flatten_cons, List.nodup_append]
    rw [List.flatten_cons, List.nodup_append] at h
    refine ⟨h.1, flat_set_nodup h.2.1 h1 fun a ha j g' hj e => h2 a ha (j + 1) g' (by omega) (by simpa using e), fun a ha b hb e => ?_⟩
    subst e
    rcases flat_set_sub hb with z | z
    · exact h2 a z 0 g (by omega) (by simp) ha
    · exact h.2.2 a ha a z rfl
theorem flat_apart {fps : List (List Addr)} {i j : Nat} {f g : List Addr} {a : Addr} (h : fps.flatten.Nodup) (hi : fps[i]? = some f) (hj : fps[j]? = some g) (hne : i ≠ j) (ha : a ∈ f) : a ∉ g := by
  intro hb
  induction fps generalizing i j with
  | nil => simp at hi
  | cons x xs ih =>
    rw [List.flatten_cons, List.nodup_append] at h
    cases i with
    | zero =>
      cases j with
      | zero => exact hne rfl
      | succ j =>
        simp at hi hj
        subst hi
        exact h.2.2 a ha a (mem_flat hj hb) rfl
    | succ i =>
      cases j with
      | zero =>
        simp at hi hj
        subst hj
        exact h.2.2 a hb a (mem_flat hi ha) rfl
      | succ j => exact ih h.2.1 (by simpa using hi) (by simpa using hj) (by omega)
/-- a name is stored -/
theorem Ok.store {i : Nat} {v : V} {o : OV} {fp : List Addr} (k : Ok T F ρ fps σ H) (r : RO T F H v o fp) (nd : (fp ++ fps.flatten).Nodup) (fr : ∀ a ∈ fp, F a = none) (hi : i < ρ.length) : Ok T F (ρ.set i (some o)) (fps.set i fp) (σ.set i (some v)) H := by
  rw [List.nodup_append] at nd
  have hi1 : i < σ.length := k.ls ▸ hi
  have hi2 : i < fps.length := k.lf ▸ hi
  refine ⟨k.sub, by simp [k.ls], by simp [k.lf], fun j u e => ?_, flat_set_nodup k.nd nd.1 fun a ha j g _ e z => nd.2.2 a ha a (mem_flat e z) rfl, fun a ha => ?_, fun a ha => ?_⟩
  · by_cases hj : i = j
    · subst hj
      rw [List.getElem?_set_self hi] at e
      cases e
      exact ⟨v, fp, by rw [List.getElem?_set_self hi1], by rw [List.getElem?_set_self hi2], r⟩
    · rw [List.getElem?_set_ne hj] at e
      obtain ⟨w, g, e1, e2, r'⟩ := k.slot j u e
      exact ⟨w, g, by rw [List.getElem?_set_ne hj]; exact e1, by rw [List.getElem?_set_ne hj]; exact e2, r'⟩
  · rcases flat_set_sub ha with z | z
    · exact fr a z
    · exact k.fr a z
  · rcases flat_set_sub ha with z | z
    · exact r.live a z
    · exact k.live a z
/-- .. with the same value, as something else (frozen; changed in place) -/
theorem Ok.turn {i : Nat} {o : OV} {fp : List Addr} (k : Ok T F ρ fps σ H) (hi : i < ρ.length) (s1 : Same F F1) (s2 : Same F1 H1)
    (hs : ∃ v, σ[i]? = some (some v) ∧ RO T F1 H1 v o fp) (hk : ∀ j g, j ≠ i → fps[j]? = some g → ∀ a ∈ g, H1 a = H a ∧ F1 a = none) (nd : fp.Nodup) (ap : ∀ a ∈ fp, ∀ j g, j ≠ i → fps[j]? = some g → a ∉ g) (fr : ∀ a ∈ fp, F1 a = none) :
    Ok T F1 (ρ.set i (some o)) (fps.set i fp) σ H1 := by
  have hi2 : i < fps.length := k.lf ▸ hi
  obtain ⟨v, ev, rv⟩ := hs
  have mem : ∀ a ∈ (fps.set i fp).flatten, a ∈ fp ∨ ∃ j g, j ≠ i ∧ fps[j]? = some g ∧ a ∈ g := fun a ha => by
    obtain ⟨g, hg, hag⟩ := List.mem_flatten.mp ha
    obtain ⟨j, hj⟩ := List.getElem?_of_mem hg
    by_cases hji : i = j
    · subst hji
      rw [List.getElem?_set_self hi2] at hj
      cases hj
      exact .inl hag
    · rw [List.getElem?_set_ne hji] at hj
      exact .inr ⟨j, g, Ne.symm hji, hj, hag⟩
  refine ⟨s2, by simp [k.ls], by simp [k.lf], fun j u e => ?_, flat_set_nodup k.nd nd ap, fun a ha => ?_, fun a ha => ?_⟩
  · by_cases hj : i = j
    · subst hj
      rw [List.getElem?_set_self hi] at e
      cases e
      exact ⟨v, fp, ev, by rw [List.getElem?_set_self hi2], rv⟩
    · rw [List.getElem?_set_ne hj] at e
      obtain ⟨w, g, e1, e2, r'⟩ := k.slot j u e
      exact ⟨w, g, e1, by rw [List.getElem?_set_ne hj]; exact e2, r'.mono s1 fun a ha => (hk j g (Ne.symm hj) e2 a ha).1⟩
  · rcases mem a ha with z | ⟨j, g, h1, h2, h3⟩
    · exact fr a z
    · exact (hk j g h1 h2 a h3).2
  · rcases mem a ha with z | ⟨j, g, h1, h2, h3⟩
    · exact rv.live a z
    · rw [(hk j g h1 h2 a h3).1]; exact k.live a (mem_flat h2 h3)
/-- what an owned value owns now stands for ever -/
theorem Ok.freeze {v : V} {o : OV} {fp : List Addr} (k : Ok T F ρ fps σ H) (r : RO T F H v o fp) (nd : (fp ++ fps.flatten).Nodup) (fr : ∀ a ∈ fp, F a = none) : Ok T (addF F H fp) ρ fps σ H ∧ RD T (addF F H fp) v o.fz := by
  rw [List.nodup_append] at nd
  refine ⟨k.grow (addF_sub fr) (addF_le k.sub) fun a ha => ?_, r.fz (addF_sub fr) fun a ha => addF_at ha⟩
  rw [addF_ne fun z => nd.2.2 a z a ha rfl]
  exact k.fr a ha
theorem Stp.freeze {fp : List Addr} (s : Stp F O H F1 (fp ++ O1) H1) (fr : ∀ a ∈ fp, F1 a = none) : Stp F O H (addF F1 H1 fp) O1 H1 := by
  refine ⟨s.mono.trans (addF_sub fr), s.keep, fun b hb => s.own b (List.mem_append_right _ hb), fun b hb => ?_, s.stay⟩
  by_cases hm : b ∈ fp
  · exact .inr (s.own b (List.mem_append_left _ hm))
  · rw [addF_ne hm] at hb
    exact s.new b hb
end

/-! ### computations -/
structure Ex where
  c : Nat
  fs : List D
inductive Res (α : Type) where
  | ok (a : α) | err (x : Ex)
abbrev M (α : Type) := En → Option (Res α × En)
namespace M
def ret {α : Type} (a : α) : M α := fun ρ => some (.ok a, ρ)
def raise {α : Type} (x : Ex) : M α := fun ρ => some (.err x, ρ)
def stuck {α : Type} : M α := fun _ => none
def bind {α β : Type} (m : M α) (k : α → M β) : M β := fun ρ => match m ρ with
  | some (.ok a, ρ1) => k a ρ1
  | some (.err x, ρ1) => some (.err x, ρ1)
  | none => none
def map {α β : Type} (f : α → β) (m : M α) : M β := M.bind m fun a => M.ret (f a)
@[simp] theorem ret_bind {α β : Type} (a : α) (k : α → M β) : M.bind (M.ret a) k = k a := rfl
@[simp] theorem raise_bind {α β : Type} (x : Ex) (k : α → M β) : M.bind (M.raise x) k = M.raise x := rfl
@[simp] theorem stuck_bind {α β : Type} (k : α → M β) : M.bind M.stuck k = M.stuck := rfl
theorem bind_assoc {α β γ : Type} (m : M α) (k : α → M β) (l : β → M γ) : M.bind (M.bind m k) l = M.bind m fun a => M.bind (k a) l := by
  funext ρ
  unfold M.bind
  cases h : m ρ with
  | none => rfl
  | some p => obtain ⟨r, ρ1⟩ := p; cases r <;> rfl
/-- the value as data -/
def fz (m : M OV) : M D := M.map OV.fz m
end M

/-! ### readings -/
/-- how an exception lies: its class and own dict -/
structure RX (T : Tbl) (F H : Hp) (x : Ex) (cls : Value) (d : Option Addr) : Prop where
  ex : ∃ (C dd : Addr) (ns : List Str) (vs : List V), T.cls x.c = some (C, ns) ∧ cls = .ref C ∧ d = some dd ∧ H dd = some (.xd (ns.zip vs)) ∧ vs.length = ns.length ∧ RDs T F vs x.fs
def PostE (T : Tbl) (W : XK) (F : Hp) (O : List Addr) (H : Hp) (σ : St) (Q : VK) : Res OV × En → Prop
  | (.ok o, ρ') => ∀ v fp F' fps' H', Ok T F' ρ' fps' σ H' → RO T F' H' v o fp → (fp ++ fps'.flatten).Nodup → (∀ a ∈ fp, F' a = none) → Stp F O H F' (fp ++ fps'.flatten) H' → Q v H'
  | (.err x, ρ') => ∀ cls d F' fps' H', Ok T F' ρ' fps' σ H' → RX T F' H' x cls d → Stp F O H F' fps'.flatten H' → W cls d H'
/-- a computation, while the values vs stand for the data xs -/
def tX (T : Tbl) (W : XK) (vs : List V) (xs : List D) (f : M OV) : TE := fun σ H Q => ∃ F ρ fps r, Ok T F ρ fps σ H ∧ RDs T F vs xs ∧ f ρ = some r ∧ PostE T W F fps.flatten H σ Q r
abbrev tE (T : Tbl) (W : XK) (f : M OV) : TE := tX T W [] [] f
/-- a list of values -/
def PostA (T : Tbl) (W : XK) (F : Hp) (O : List Addr) (H : Hp) (σ : St) (Q : List V → Hp → Prop) : Res (List D) × En → Prop
  | (.ok ds, ρ') => ∀ vs F' fps' H', Ok T F' ρ' fps' σ H' → RDs T F' vs ds → Stp F O H F' fps'.flatten H' → Q vs H'
  | (.err x, ρ') => ∀ cls d F' fps' H', Ok T F' ρ' fps' σ H' → RX T F' H' x cls d → Stp F O H F' fps'.flatten H' → W cls d H'
def tA (T : Tbl) (W : XK) (vs : List V) (xs : List D) (f : M (List D)) : TA := fun σ H Q => ∃ F ρ fps r, Ok T F ρ fps σ H ∧ RDs T F vs xs ∧ f ρ = some r ∧ PostA T W F fps.flatten H σ Q r
/-- a truth value -/
def PostT (T : Tbl) (W : XK) (F : Hp) (O : List Addr) (H : Hp) (σ : St) (Q : Bool → Hp → Prop) : Res Bool × En → Prop
  | (.ok b, ρ') => ∀ F' fps' H', Ok T F' ρ' fps' σ H' → Stp F O H F' fps'.flatten H' → Q b H'
  | (.err x, ρ') => ∀ cls d F' fps' H', Ok T F' ρ' fps' σ H' → RX T F' H' x cls d → Stp F O H F' fps'.flatten H' → W cls d H'
def tT (T : Tbl) (W : XK) (vs : List V) (xs : List D) (f : M Bool) : TT := fun σ H Q => ∃ F ρ fps r, Ok T F ρ fps σ H ∧ RDs T F vs xs ∧ f ρ = some r ∧ PostT T W F fps.flatten H σ Q r
section
variable {T : Tbl} {W : XK} {vs : List V} {xs : List D} {σ : St} {H : Hp}
theorem PostE.imp {F F0 : Hp} {O O0 : List Addr} {H0 : Hp} {Q : VK} : ∀ {r : Res OV × En}, PostE T W F0 O0 H0 σ Q r → Stp F0 O0 H0 F O H → PostE T W F O H σ Q r
  | (.ok o, ρ'), p, s => fun v fp F' fps' H' h1 h2 h3 h4 h5 => p v fp F' fps' H' h1 h2 h3 h4 (s.trans h5)
  | (.err x, ρ'), p, s => fun cls d F' fps' H' h1 h2 h3 => p cls d F' fps' H' h1 h2 (s.trans h3)
theorem PostA.imp {F F0 : Hp} {O O0 : List Addr} {H0 : Hp} {Q : List V → Hp → Prop} : ∀ {r : Res (List D) × En}, PostA T W F0 O0 H0 σ Q r → Stp F0 O0 H0 F O H → PostA T W F O H σ Q r
  | (.ok o, ρ'), p, s => fun v F' fps' H' h1 h2 h5 => p v F' fps' H' h1 h2 (s.trans h5)
  | (.err x, ρ'), p, s => fun cls d F' fps' H' h1 h2 h3 => p cls d F' fps' H' h1 h2 (s.trans h3)
theorem PostT.imp {F F0 : Hp} {O O0 : List Addr} {H0 : Hp} {Q : Bool → Hp → Prop} : ∀ {r : Res Bool × En}, PostT T W F0 O0 H0 σ Q r → Stp F0 O0 H0 F O H → PostT T W F O H σ Q r
  | (.ok o, ρ'), p, s => fun F' fps' H' h1 h5 => p F' fps' H' h1 (s.trans h5)
  | (.err x, ρ'), p, s => fun cls d F' fps' H' h1 h2 h3 => p cls d F' fps' H' h1 h2 (s.trans h3)
/-- what a computation's end asks, of any kind: Qk what is wanted of a value; the way of an error is the same -/
theorem bind_cases {α β : Type} {f : M α} {k : α → M β} {ρ : En} {r : Res β × En} (h : M.bind f k ρ = some r) : (∃ a ρ1, f ρ = some (.ok a, ρ1) ∧ k a ρ1 = some r) ∨ (∃ x ρ1, f ρ = some (.err x, ρ1) ∧ r = (.err x, ρ1)) := by
  unfold M.bind at h
  cases e : f ρ with
  | none => rw [e] at h; cases h
  | some p =>
    obtain ⟨q, ρ1⟩ := p
    rw [e] at h
    cases q with
    | ok a => exact .inl ⟨a, ρ1, rfl, h⟩
    | err x => exact .inr ⟨x, ρ1, rfl, (Option.some.inj h).symm⟩
/-- first f, its value as data, then k: by f's own reading -/
theorem tX_bind {f : M OV} {k : D → M OV} {Q : VK} (h : tX T W vs xs (M.bind (M.fz f) k) σ H Q) : tE T W f σ H fun v H1 => ∃ x, tX T W (v :: vs) (x :: xs) (k x) σ H1 Q := by
  obtain ⟨F, ρ, fps, r, ok, rv, e, p⟩ := h
  rcases bind_cases e with ⟨x, ρ1, e1, e2⟩ | ⟨x, ρ1, e1, rfl⟩
  · rcases bind_cases e1 with ⟨o, ρ2, e3, e4⟩ | ⟨y, ρ2, e3, e4⟩
    · cases e4
      refine ⟨F, ρ, fps, _, ok, .nil, e3, fun v fp F' fps' H' h1 h2 h3 h4 h5 => ?_⟩
      obtain ⟨k1, k2⟩ := h1.freeze h2 h3 h4
      have s := h5.freeze h4
      exact ⟨o.fz, addF F' H' fp, ρ1, fps', r, k1, .cons k2 (rv.mono s.mono), e2, p.imp s⟩
    · cases e4
  · rcases bind_cases e1 with ⟨o, ρ2, e3, e4⟩ | ⟨y, ρ2, e3, e4⟩
    · cases e4
    · cases e4
      exact ⟨F, ρ, fps, _, ok, .nil, e3, p⟩
theorem tA_bind {f : M (List D)} {k : List D → M OV} {Q : VK} (h : tX T W vs xs (M.bind f k) σ H Q) : tA T W [] [] f σ H fun ws H1 => ∃ ys, tX T W (ws ++ vs) (ys ++ xs) (k ys) σ H1 Q := by
  obtain ⟨F, ρ, fps, r, ok, rv, e, p⟩ := h
  rcases bind_cases e with ⟨ys, ρ1, e1, e2⟩ | ⟨x, ρ1, e1, rfl⟩
  · refine ⟨F, ρ, fps, _, ok, .nil, e1, fun ws F' fps' H' h1 h2 h3 => ?_⟩
    exact ⟨ys, F', ρ1, fps', r, h1, h2.append (rv.mono h3.mono), e2, p.imp h3⟩
  · exact ⟨F, ρ, fps, _, ok, .nil, e1, p⟩
theorem tT_bind {f : M Bool} {k : Bool → M OV} {Q : VK} (h : tX T W vs xs (M.bind f k) σ H Q) : tT T W vs xs f σ H fun b H1 => tX T W vs xs (k b) σ H1 Q := by
  obtain ⟨F, ρ, fps, r, ok, rv, e, p⟩ := h
  rcases bind_cases e with ⟨b, ρ1, e1, e2⟩ | ⟨x, ρ1, e1, rfl⟩
  · exact ⟨F, ρ, fps, _, ok, rv, e1, fun F' fps' H' h1 h3 => ⟨F', ρ1, fps', r, h1, rv.mono h3.mono, e2, p.imp h3⟩⟩
  · exact ⟨F, ρ, fps, _, ok, rv, e1, p⟩
/-- .. a truth value out of values -/
theorem tXT_bind {f : M OV} {k : D → M Bool} {Q : Bool → Hp → Prop} (h : tT T W vs xs (M.bind (M.fz f) k) σ H Q) : tE T W f σ H fun v H1 => ∃ x, tT T W (v :: vs) (x :: xs) (k x) σ H1 Q := by
  obtain ⟨F, ρ, fps, r, ok, rv, e, p⟩ := h
  rcases bind_cases e with ⟨x, ρ1, e1, e2⟩ | ⟨x, ρ1, e1, rfl⟩
  · rcases bind_cases e1 with ⟨o, ρ2, e3, e4⟩ | ⟨y, ρ2, e3, e4⟩
    · cases e4
      refine ⟨F, ρ, fps, _, ok, .nil, e3, fun v fp F' fps' H' h1 h2 h3 h4 h5 => ?_⟩
      obtain ⟨k1, k2⟩ := h1.freeze h2 h3 h4
      have s := h5.freeze h4
      exact ⟨o.fz, addF F' H' fp, ρ1, fps', r, k1, .cons k2 (rv.mono s.mono), e2, p.imp s⟩
    · cases e4
  · rcases bind_cases e1 with ⟨o, ρ2, e3, e4⟩ | ⟨y, ρ2, e3, e4⟩
    · cases e4
    · cases e4
      exact ⟨F, ρ, fps, _, ok, .nil, e3, p⟩
theorem tTT_bind {f : M Bool} {k : Bool → M Bool} {Q : Bool → Hp → Prop} (h : tT T W vs xs (M.bind f k) σ H Q) : tT T W vs xs f σ H fun b H1 => tT T W vs xs (k b) σ H1 Q := by
  obtain ⟨F, ρ, fps, r, ok, rv, e, p⟩ := h
  rcases bind_cases e with ⟨b, ρ1, e1, e2⟩ | ⟨x, ρ1, e1, rfl⟩
  · exact ⟨F, ρ, fps, _, ok, rv, e1, fun F' fps' H' h1 h3 => ⟨F', ρ1, fps', r, h1, rv.mono h3.mono, e2, p.imp h3⟩⟩
  · exact ⟨F, ρ, fps, _, ok, rv, e1, p⟩
/-- forget the values -/
theorem tX.drop {f : M OV} {Q : VK} (h : tX T W vs xs f σ H Q) : tE T W f σ H Q := by
  obtain ⟨F, ρ, fps, r, ok, rv, e, p⟩ := h
  exact ⟨F, ρ, fps, r, ok, .nil, e, p⟩
theorem tT.drop {f : M Bool} {Q : Bool → Hp → Prop} (h : tT T W vs xs f σ H Q) : tT T W [] [] f σ H Q := by
  obtain ⟨F, ρ, fps, r, ok, rv, e, p⟩ := h
  exact ⟨F, ρ, fps, r, ok, .nil, e, p⟩
/-- the end: a value that is data here -/
theorem tX_ret {x : D} {Q : VK} (h : tX T W vs xs (M.ret (.d x)) σ H Q) : ∃ F, RDs T F vs xs ∧ Same F H ∧ ∀ v, RD T F v x → Q v H := by
  obtain ⟨F, ρ, fps, r, ok, rv, e, p⟩ := h
  cases e
  exact ⟨F, rv, ok.sub, fun v hv => p v [] F fps H ok (.d hv) (by simpa using ok.nd) (by simp) (by simpa using Stp.refl)⟩
/-- the end: a new object that stands for ever -/
theorem tX_new {x : D} {Q : VK} (h : tX T W vs xs (M.ret (.d x)) σ H Q) : ∃ F, RDs T F vs xs ∧ Same F H ∧ ∀ p o, H p = none → RD T (upd F p o) (.ref p) x → Q (.ref p) (upd H p o) := by
  obtain ⟨F, ρ, fps, r, ok, rv, e, q⟩ := h
  cases e
  refine ⟨F, rv, ok.sub, fun p o hp hr => ?_⟩
  have hF : F p = none := by
    cases z : F p with
    | none => rfl
    | some u => rw [ok.sub p u z] at hp; cases hp
  have sF : Same F (upd F p o) := fun b u e => by rw [upd_ne (ne_of_none e hF)]; exact e
  have sH : Same H (upd H p o) := fun b u e => by rw [upd_ne (ne_of_none e hp)]; exact e
  have ok1 : Ok T (upd F p o) ρ fps σ (upd H p o) := (ok.kept sH).grow sF (fun b u e => by
    by_cases hb : b = p
    · subst hb; rw [upd_same] at e ⊢; exact e
    · rw [upd_ne hb] at e ⊢; exact ok.sub b u e) fun a ha => by
    rw [upd_ne (fun z : a = p => ok.live a ha (by rw [z]; exact hp))]
    exact ok.fr a ha
  refine q (.ref p) [] (upd F p o) fps (upd H p o) ok1 (.d hr) (by simpa using ok.nd) (by simp) ⟨sF, fun b u e _ => sH b u e, fun b hb => .inl (by simpa using hb), fun b hb => ?_, fun b hb e => ?_⟩
  · by_cases hbp : b = p
    · subst hbp; exact .inr (.inr hp)
    · rw [upd_ne hbp] at hb; exact .inl hb
  · cases z : H b with
    | none => exact hb z
    | some u => rw [sH b u z] at e; cases e
/-- the end: a new object that is owned -/
theorem tX_own {x : OV} {Q : VK} (h : tX T W vs xs (M.ret x) σ H Q) : ∃ F, RDs T F vs xs ∧ Same F H ∧ ∀ p o, H p = none → RO T F (upd H p o) (.ref p) x [p] → Q (.ref p) (upd H p o) := by
  obtain ⟨F, ρ, fps, r, ok, rv, e, q⟩ := h
  cases e
  refine ⟨F, rv, ok.sub, fun p o hp hr => ?_⟩
  have hF : F p = none := by
    cases z : F p with
    | none => rfl
    | some u => rw [ok.sub p u z] at hp; cases hp
  have sH : Same H (upd H p o) := fun b u e => by rw [upd_ne (ne_of_none e hp)]; exact e
  have np : p ∉ fps.flatten := fun z => ok.live p z hp
  refine q (.ref p) [p] F fps (upd H p o) (ok.kept sH) hr ?_ (by simpa using hF) ⟨Same.refl _, fun b u e _ => sH b u e, fun b hb => ?_, fun b hb => .inl hb, fun b hb e => ?_⟩
  · rw [List.singleton_append, List.nodup_cons]
    exact ⟨np, ok.nd⟩
  · rw [List.singleton_append] at hb
    rcases List.mem_cons.mp hb with z | z
    · subst z; exact .inr hp
    · exact .inl z
  · cases z : H b with
    | none => exact hb z
    | some u => rw [sH b u z] at e; cases e
theorem tT_ret {b : Bool} {Q : Bool → Hp → Prop} (h : tT T W vs xs (M.ret b) σ H Q) : Q b H := by
  obtain ⟨F, ρ, fps, r, ok, rv, e, p⟩ := h
  cases e
  exact p F fps H ok Stp.refl
theorem tX_stuck {Q : VK} (h : tX T W vs xs M.stuck σ H Q) : False := by
  obtain ⟨F, ρ, fps, r, ok, rv, e, p⟩ := h
  cases e
theorem tT_stuck {Q : Bool → Hp → Prop} (h : tT T W vs xs M.stuck σ H Q) : False := by
  obtain ⟨F, ρ, fps, r, ok, rv, e, p⟩ := h
  cases e
end
section
variable {X : Cx} {e : Expr} {t u : TE}
theorem PE.imp (h : PE X e t) (i : ∀ σ H Q, u σ H Q → t σ H Q) : PE X e u := ⟨fun pins s σ H Q I q => h.run pins s σ H Q I (i σ H Q q)⟩
theorem PT.imp {t u : TT} (h : PT X e t) (i : ∀ σ H Q, u σ H Q → t σ H Q) : PT X e u := ⟨fun pins s σ H Q I q => h.run pins s σ H Q I (i σ H Q q)⟩
theorem PA.imp {es : List Expr} {t u : TA} (h : PA X es t) (i : ∀ σ H Q, u σ H Q → t σ H Q) : PA X es u := ⟨fun pos pins s σ H Q I q => h.run pos pins s σ H Q I (i σ H Q q)⟩
theorem PS.imp {st : Stmt} {t u : TS} (h : PS X st t) (i : ∀ D σ H, u D σ H → t D σ H) : PS X st u := ⟨fun pins s σ H D I q => h.run pins s σ H D I (i D σ H q)⟩
theorem PSs.imp {st : List Stmt} {t u : TS} (h : PSs X st t) (i : ∀ D σ H, u D σ H → t D σ H) : PSs X st u := ⟨fun pins s σ H D I q => h.run pins s σ H D I (i D σ H q)⟩
end
end IR
end
section
set_option Elab.async false
set_option linter.all false
set_option maxRecDepth 100000
set_option maxHeartbeats 2000000
/-! IVal: operations on data, and the rules that they answer to. -/
namespace IR
open PySem PySem.Spec L2

/-! ### plain data -/
mutual
def D.py : D → PyData
  | .non => .none
  | .bl b => .bool b
  | .int i => .int i
  | .str x => .str x
  | .tup xs => .tuple (D.pys xs)
  | .lst xs => .list (D.pys xs)
  | .dic _ => .dict []
  | .obj _ _ => .dict []
  | .rol _ => .dict []
def D.pys : List D → List PyData
  | [] => []
  | x :: xs => x.py :: D.pys xs
end
theorem pys_map : ∀ xs : List D, D.pys xs = xs.map D.py
  | [] => by simp [D.pys]
  | x :: xs => by simp [D.pys, pys_map xs]
/-- plain data, nested at most so deep -/
def D.ok : Nat → D → Bool
  | _, .non => true
  | _, .bl _ => true
  | _, .int _ => true
  | _, .str x => PyData.strOk x
  | n + 1, .tup xs => xs.all (D.ok n)
  | n + 1, .lst xs => xs.all (D.ok n)
  | _, _ => false
theorem D.ok_lay : ∀ (n : Nat) (x : D), D.ok n x = true → x.py.canLay0 = true ∧ x.py.depth ≤ n
  | _, .non, _ => by simp [D.py, PyData.canLay0, PyData.depth]
  | _, .bl _, _ => by simp [D.py, PyData.canLay0, PyData.depth]
  | _, .int _, _ => by simp [D.py, PyData.canLay0, PyData.depth]
  | _, .str x, h => by
    have h' : PyData.strOk x = true := by simpa [D.ok] using h
    simp [D.py, PyData.canLay0, PyData.depth, h']
  | n + 1, .tup xs, h => by
    have h' : ∀ x ∈ xs, D.ok n x = true := by simpa [D.ok] using h
    have q : PyData.canLayAll0 (D.pys xs) = true ∧ PyData.depthAll (D.pys xs) ≤ n := by
      clear h
      induction xs with
      | nil => simp [D.pys, PyData.canLayAll0, PyData.depthAll]
      | cons x xs ih =>
        obtain ⟨a, b⟩ := D.ok_lay n x (h' x List.mem_cons_self)
        obtain ⟨c, d⟩ := ih fun y hy => h' y (List.mem_cons_of_mem _ hy)
        simp only [D.pys, PyData.canLayAll0, PyData.depthAll, a, c]
        exact ⟨by simp, by omega⟩
    simp only [D.py, PyData.canLay0, PyData.depth, q.1]
    exact ⟨trivial, by omega⟩
  | n + 1, .lst xs, h => by
    have h' : ∀ x ∈ xs, D.ok n x = true := by simpa [D.ok] using h
    have q : PyData.canLayAll0 (D.pys xs) = true ∧ PyData.depthAll (D.pys xs) ≤ n := by
      clear h
      induction xs with
      | nil => simp [D.pys, PyData.canLayAll0, PyData.depthAll]
      | cons x xs ih =>
        obtain ⟨a, b⟩ := D.ok_lay n x (h' x List.mem_cons_self)
        obtain ⟨c, d⟩ := ih fun y hy => h' y (List.mem_cons_of_mem _ hy)
        simp only [D.pys, PyData.canLayAll0, PyData.depthAll, a, c]
        exact ⟨by simp, by omega⟩
    simp only [D.py, PyData.canLay0, PyData.depth, q.1]
    exact ⟨trivial, by omega⟩
  | 0, .tup _, h => by simp [D.ok] at h
  | 0, .lst _, h => by simp [D.ok] at h
  | 0, .dic _, h => by simp [D.ok] at h
  | n + 1, .dic _, h => by simp [D.ok] at h
  | 0, .obj _ _, h => by simp [D.ok] at h
  | n + 1, .obj _ _, h => by simp [D.ok] at h
  | 0, .rol _, h => by simp [D.ok] at h
  | n + 1, .rol _, h => by simp [D.ok] at h
theorem D.ok_shaped {x : D} (h : D.ok 60 x = true) : SeqAt.shaped x.py = true := by
  obtain ⟨a, b⟩ := D.ok_lay 60 x h
  show (x.py.canLay0 && decide (x.py.depth ≤ 64)) = true
  rw [a, Bool.true_and]
  exact decide_eq_true (by omega)
theorem D.ok_mono : ∀ {n m : Nat} {x : D}, n ≤ m → D.ok n x = true → D.ok m x = true
  | _, _, .non, _, _ => by simp [D.ok]
  | _, _, .bl _, _, _ => by simp [D.ok]
  | _, _, .int _, _, _ => by simp [D.ok]
  | _, _, .str x, _, h => by simpa [D.ok] using h
  | n + 1, m + 1, .tup xs, l, h => by
    simp only [D.ok, List.all_eq_true] at h ⊢
    exact fun x hx => D.ok_mono (by omega) (h x hx)
  | n + 1, m + 1, .lst xs, l, h => by
    simp only [D.ok, List.all_eq_true] at h ⊢
    exact fun x hx => D.ok_mono (by omega) (h x hx)
  | n + 1, 0, .tup _, l, h => by omega
  | n + 1, 0, .lst _, l, h => by omega
  | 0, _, .tup _, _, h => by simp [D.ok] at h
  | 0, _, .lst _, _, h => by simp [D.ok] at h
  | 0, _, .dic _, _, h => by simp [D.ok] at h
  | n + 1, _, .dic _, _, h => by simp [D.ok] at h
  | 0, _, .obj _ _, _, h => by simp [D.ok] at h
  | n + 1, _, .obj _ _, _, h => by simp [D.ok] at h
  | 0, _, .rol _, _, h => by simp [D.ok] at h
  | n + 1, _, .rol _, _, h => by simp [D.ok] at h
/-- Python's == on plain data -/
def D.eqv (x y : D) : Bool := PyData.eqv x.py y.py

/-! ### what may be looked at: data, or an owned list, dict, object of data -/
inductive RB (T : Tbl) (F H : Hp) : V → D → Prop
  | fro {v : V} {x : D} : RD T F v x → RB T F H v x
  | lst {a : Addr} {vs : List V} {ds : List D} : H a = some (.lst vs) → RDs T F vs ds → RB T F H (.ref a) (.lst ds)
  | dK {a : Addr} {kvs : List (Key × V)} {ds : List D} : H a = some (.dK kvs) → RDs T F (kvs.map (·.2)) ds → RB T F H (.ref a) (.dic ((kvs.map fun p => kD p.1).zip ds))
  | dT {a : Addr} {kvs : List (List Key × V)} {ds : List D} : H a = some (.dT kvs) → RDs T F (kvs.map (·.2)) ds → RB T F H (.ref a) (.dic ((kvs.map fun p => D.tup (p.1.map kD)).zip ds))
  | obj {a C dx : Addr} {c : Nat} {ns : List Str} {vs : List V} {ds : List D} : T.cls c = some (C, ns) → H a = some (.ins C dx (ns.zip vs)) → vs.length ≤ ns.length → RDs T F vs ds → RB T F H (.ref a) (.obj c ds)
inductive RBs (T : Tbl) (F H : Hp) : List V → List D → Prop
  | nil : RBs T F H [] []
  | cons {v : V} {vs : List V} {x : D} {xs : List D} : RB T F H v x → RBs T F H vs xs → RBs T F H (v :: vs) (x :: xs)
section
variable {T : Tbl} {F H : Hp}
theorem RDs.toB : ∀ {vs : List V} {xs : List D}, RDs T F vs xs → RBs T F H vs xs
  | _, _, .nil => .nil
  | _, _, .cons q r => .cons (.fro q) (RDs.toB r)
mutual
theorem RD.dp (s : Same F H) : ∀ (n : Nat) {v : V} (x : D), RD T F v x → D.ok n x = true → Dp T.K H v x.py
  | _, _, .non, q, _ => by cases q; simp only [D.py]; exact .non
  | _, _, .bl b, q, _ => by cases q; simp only [D.py]; exact .bl b
  | _, _, .int i, q, _ => by cases q; simp only [D.py]; exact .int i
  | _, _, .str x, q, _ => by cases q; simp only [D.py]; exact .str x
  | n + 1, _, .tup xs, q, h => by
    cases q with
    | tup q r =>
      simp only [D.py]
      exact .tup (sqT_mono s q) (RDs.dp s n xs r (by simpa [D.ok] using h))
  | n + 1, _, .lst xs, q, h => by
    cases q with
    | lst q r =>
      simp only [D.py]
      exact .lst (SqL.of (s _ _ q)) (RDs.dp s n xs r (by simpa [D.ok] using h))
  | 0, _, .tup _, _, h => by simp [D.ok] at h
  | 0, _, .lst _, _, h => by simp [D.ok] at h
  | 0, _, .dic _, _, h => by simp [D.ok] at h
  | n + 1, _, .dic _, _, h => by simp [D.ok] at h
  | 0, _, .obj _ _, _, h => by simp [D.ok] at h
  | n + 1, _, .obj _ _, _, h => by simp [D.ok] at h
  | 0, _, .rol _, _, h => by simp [D.ok] at h
  | n + 1, _, .rol _, _, h => by simp [D.ok] at h
theorem RDs.dp (s : Same F H) : ∀ (n : Nat) {vs : List V} (xs : List D), RDs T F vs xs → (∀ x ∈ xs, D.ok n x = true) → DpAll T.K H vs (D.pys xs)
  | _, _, [], q, _ => by cases q; simp only [D.pys]; exact .nil
  | n, _, x :: xs, q, h => by
    cases q with
    | cons q r =>
      simp only [D.pys]
      exact .cons (RD.dp s n x q (h x List.mem_cons_self)) (RDs.dp s n xs r fun y hy => h y (List.mem_cons_of_mem _ hy))
end
theorem RB.dp (s : Same F H) {n : Nat} {v : V} {x : D} (q : RB T F H v x) (h : D.ok n x = true) : Dp T.K H v x.py := by
  cases q with
  | fro q => exact q.dp s n x h
  | lst q r =>
    cases n with
    | zero => simp [D.ok] at h
    | succ n =>
      simp only [D.py]
      exact .lst (SqL.of q) (r.dp s n _ (by simpa [D.ok] using h))
  | dK q r => cases n <;> simp [D.ok] at h
  | dT q r => cases n <;> simp [D.ok] at h
  | obj a b c d => cases n <;> simp [D.ok] at h
/-- a list, a tuple: its items -/
theorem RB.lst_inv (s : Same F H) {v : V} {xs : List D} (q : RB T F H v (.lst xs)) : ∃ a vs, v = .ref a ∧ H a = some (.lst vs) ∧ RDs T F vs xs := by
  cases q with
  | fro q => cases q with
    | lst q r => exact ⟨_, _, rfl, s _ _ q, r⟩
  | lst q r => exact ⟨_, _, rfl, q, r⟩
theorem RB.tup_inv (s : Same F H) {v : V} {xs : List D} (q : RB T F H v (.tup xs)) : ∃ a vs, v = .ref a ∧ SqT T.K H a vs ∧ RDs T F vs xs := by
  cases q with
  | fro q => cases q with
    | tup q r => exact ⟨_, _, rfl, sqT_mono s q, r⟩
theorem RB.rol_inv (s : Same F H) {v : V} {xs : List D} (q : RB T F H v (.rol xs)) : ∃ a vs, v = .ref a ∧ SqL T.K H a vs ∧ RDs T F vs xs := by
  cases q with
  | fro q => cases q with
    | rol q r => exact ⟨_, _, rfl, s.seq q, r⟩
theorem RB.int_inv {v : V} {i : Int} (q : RB T F H v (.int i)) : v = .int i := by
  cases q with
  | fro q => cases q; rfl
theorem RB.bl_inv {v : V} {b : Bool} (q : RB T F H v (.bl b)) : v = .bl b := by
  cases q with
  | fro q => cases q; rfl
theorem RB.str_inv {v : V} {x : Str} (q : RB T F H v (.str x)) : v = .str x := by
  cases q with
  | fro q => cases q; rfl
theorem RB.non_inv {v : V} (q : RB T F H v .non) : v = .non := by
  cases q with
  | fro q => cases q; rfl
end

/-! ### readings with what may be looked at -/
def tR (T : Tbl) (W : XK) (vs : List V) (xs : List D) (f : M OV) : TE := fun σ H Q => ∃ F ρ fps r, Ok T F ρ fps σ H ∧ RBs T F H vs xs ∧ f ρ = some r ∧ PostE T W F fps.flatten H σ Q r
def tRT (T : Tbl) (W : XK) (vs : List V) (xs : List D) (f : M Bool) : TT := fun σ H Q => ∃ F ρ fps r, Ok T F ρ fps σ H ∧ RBs T F H vs xs ∧ f ρ = some r ∧ PostT T W F fps.flatten H σ Q r
section
variable {T : Tbl} {W : XK} {vs : List V} {xs : List D} {σ : L2.St} {H : Hp}
theorem tX.toR {f : M OV} {Q : VK} (h : tX T W vs xs f σ H Q) : tR T W vs xs f σ H Q := by
  obtain ⟨F, ρ, fps, r, ok, rv, e, p⟩ := h
  exact ⟨F, ρ, fps, r, ok, rv.toB, e, p⟩
theorem tT.toR {f : M Bool} {Q : Bool → Hp → Prop} (h : tT T W vs xs f σ H Q) : tRT T W vs xs f σ H Q := by
  obtain ⟨F, ρ, fps, r, ok, rv, e, p⟩ := h
  exact ⟨F, ρ, fps, r, ok, rv.toB, e, p⟩
theorem PostE.mono {F : Hp} {O : List Addr} {Q Q' : VK} (i : ∀ v H, Q v H → Q' v H) : ∀ {r : Res OV × En}, PostE T W F O H σ Q r → PostE T W F O H σ Q' r
  | (.ok o, ρ'), p => fun v fp F' fps' H' h1 h2 h3 h4 h5 => i _ _ (p v fp F' fps' H' h1 h2 h3 h4 h5)
  | (.err x, ρ'), p => p
theorem tX.mono {f : M OV} {Q Q' : VK} (h : tX T W vs xs f σ H Q) (i : ∀ v H, Q v H → Q' v H) : tX T W vs xs f σ H Q' := by
  obtain ⟨F, ρ, fps, r, ok, rv, e, p⟩ := h
  exact ⟨F, ρ, fps, r, ok, rv, e, p.mono i⟩
theorem PostT.mono {F : Hp} {O : List Addr} {Q Q' : Bool → Hp → Prop} (i : ∀ v H, Q v H → Q' v H) : ∀ {r : Res Bool × En}, PostT T W F O H σ Q r → PostT T W F O H σ Q' r
  | (.ok o, ρ'), p => fun F' fps' H' h1 h2 => i _ _ (p F' fps' H' h1 h2)
  | (.err x, ρ'), p => p
theorem tT.mono {f : M Bool} {Q Q' : Bool → Hp → Prop} (h : tT T W vs xs f σ H Q) (i : ∀ v H, Q v H → Q' v H) : tT T W vs xs f σ H Q' := by
  obtain ⟨F, ρ, fps, r, ok, rv, e, p⟩ := h
  exact ⟨F, ρ, fps, r, ok, rv, e, p.mono i⟩
theorem PostA.mono {F : Hp} {O : List Addr} {Q Q' : List V → Hp → Prop} (i : ∀ v H, Q v H → Q' v H) : ∀ {r : Res (List D) × En}, PostA T W F O H σ Q r → PostA T W F O H σ Q' r
  | (.ok o, ρ'), p => fun vs F' fps' H' h1 h2 h3 => i _ _ (p vs F' fps' H' h1 h2 h3)
  | (.err x, ρ'), p => p
theorem tA.mono {f : M (List D)} {Q Q' : List V → Hp → Prop} (h : tA T W vs xs f σ H Q) (i : ∀ v H, Q v H → Q' v H) : tA T W vs xs f σ H Q' := by
  obtain ⟨F, ρ, fps, r, ok, rv, e, p⟩ := h
  exact ⟨F, ρ, fps, r, ok, rv, e, p.mono i⟩
theorem tR.mono {f : M OV} {Q Q' : VK} (h : tR T W vs xs f σ H Q) (i : ∀ v H, Q v H → Q' v H) : tR T W vs xs f σ H Q' := by
  obtain ⟨F, ρ, fps, r, ok, rv, e, p⟩ := h
  exact ⟨F, ρ, fps, r, ok, rv, e, p.mono i⟩
/-- the ends, with what may be looked at -/
theorem tR_ret {x : D} {Q : VK} (h : tR T W vs xs (M.ret (.d x)) σ H Q) : ∃ F, RBs T F H vs xs ∧ Same F H ∧ ∀ v, RD T F v x → Q v H := by
  obtain ⟨F, ρ, fps, r, ok, rv, e, p⟩ := h
  cases e
  exact ⟨F, rv, ok.sub, fun v hv => p v [] F fps H ok (.d hv) (by simpa using ok.nd) (by simp) (by simpa using Stp.refl)⟩
theorem tR_new {x : D} {Q : VK} (h : tR T W vs xs (M.ret (.d x)) σ H Q) : ∃ F, RBs T F H vs xs ∧ Same F H ∧ (∀ v, RD T F v x → Q v H) ∧ ∀ p o, H p = none → RD T (upd F p o) (.ref p) x → Q (.ref p) (upd H p o) := by
  obtain ⟨F, ρ, fps, r, ok, rv, e, q⟩ := h
  cases e
  refine ⟨F, rv, ok.sub, fun v hv => q v [] F fps H ok (.d hv) (by simpa using ok.nd) (by simp) (by simpa using Stp.refl), fun p o hp hr => ?_⟩
  have h2 : tX T W [] [] (M.ret (.d x)) σ H Q := ⟨F, ρ, fps, _, ok, .nil, rfl, q⟩
  have hF : F p = none := by
    cases z : F p with
    | none => rfl
    | some u => rw [ok.sub p u z] at hp; cases hp
  have sF : Same F (upd F p o) := fun b u e => by rw [upd_ne (ne_of_none e hF)]; exact e
  have sH : Same H (upd H p o) := fun b u e => by rw [upd_ne (ne_of_none e hp)]; exact e
  have ok1 : Ok T (upd F p o) ρ fps σ (upd H p o) := (ok.kept sH).grow sF (fun b u e => by
    by_cases hb : b = p
    · subst hb; rw [upd_same] at e ⊢; exact e
    · rw [upd_ne hb] at e ⊢; exact ok.sub b u e) fun a ha => by
    rw [upd_ne (fun z : a = p => ok.live a ha (by rw [z]; exact hp))]
    exact ok.fr a ha
  refine q (.ref p) [] (upd F p o) fps (upd H p o) ok1 (.d hr) (by simpa using ok.nd) (by simp) ⟨sF, fun b u e _ => sH b u e, fun b hb => .inl (by simpa using hb), fun b hb => ?_, fun b hb e => ?_⟩
  · by_cases hbp : b = p
    · subst hbp; exact .inr (.inr hp)
    · rw [upd_ne hbp] at hb; exact .inl hb
  · cases z : H b with
    | none => exact hb z
    | some u => rw [sH b u z] at e; cases e
theorem tR_own {x : OV} {Q : VK} (h : tR T W vs xs (M.ret x) σ H Q) : ∃ F, RBs T F H vs xs ∧ Same F H ∧ ∀ p o, H p = none → RO T F (upd H p o) (.ref p) x [p] → Q (.ref p) (upd H p o) := by
  obtain ⟨F, ρ, fps, r, ok, rv, e, q⟩ := h
  obtain ⟨F', _, s, k⟩ := tX_own (T := T) (W := W) (vs := []) (xs := []) (x := x) (σ := σ) (H := H) (Q := Q) ⟨F, ρ, fps, r, ok, .nil, e, q⟩
  cases e
  refine ⟨F, rv, ok.sub, fun p o hp hr => ?_⟩
  have hF : F p = none := by
    cases z : F p with
    | none => rfl
    | some u => rw [ok.sub p u z] at hp; cases hp
  have sH : Same H (upd H p o) := fun b u e => by rw [upd_ne (ne_of_none e hp)]; exact e
  have np : p ∉ fps.flatten := fun z => ok.live p z hp
  refine q (.ref p) [p] F fps (upd H p o) (ok.kept sH) hr ?_ (by simpa using hF) ⟨Same.refl _, fun b u e _ => sH b u e, fun b hb => ?_, fun b hb => .inl hb, fun b hb e => ?_⟩
  · rw [List.singleton_append, List.nodup_cons]
    exact ⟨np, ok.nd⟩
  · rw [List.singleton_append] at hb
    rcases List.mem_cons.mp hb with z | z
    · subst z; exact .inr hp
    · exact .inl z
  · cases z : H b with
    | none => exact hb z
    | some u => rw [sH b u z] at e; cases e
theorem tR_stuck {Q : VK} (h : tR T W vs xs M.stuck σ H Q) : False := by
  obtain ⟨F, ρ, fps, r, ok, rv, e, p⟩ := h
  cases e
theorem tRT_ret {b : Bool} {Q : Bool → Hp → Prop} (h : tRT T W vs xs (M.ret b) σ H Q) : ∃ F, RBs T F H vs xs ∧ Same F H ∧ Q b H := by
  obtain ⟨F, ρ, fps, r, ok, rv, e, p⟩ := h
  cases e
  exact ⟨F, rv, ok.sub, p F fps H ok Stp.refl⟩
theorem tRT_stuck {Q : Bool → Hp → Prop} (h : tRT T W vs xs M.stuck σ H Q) : False := by
  obtain ⟨F, ρ, fps, r, ok, rv, e, p⟩ := h
  cases e
end
end IR
end
section
set_option Elab.async false
set_option linter.all false
set_option maxRecDepth 100000
set_option maxHeartbeats 2000000
/-! IOps: operators on data. -/
namespace IR
open PySem PySem.Spec L2

/-! ### arithmetic, joining -/
def vAdd : D → D → M OV
  | .int i, .int j => M.ret (.d (.int (i + j)))
  | .str x, .str y => if x.length + y.length ≤ sizeLine then M.ret (.d (.str (x ++ y))) else M.stuck
  | .tup xs, .tup ys => if xs.length + ys.length ≤ sizeLine then M.ret (.d (.tup (xs ++ ys))) else M.stuck
  | .lst xs, .lst ys => if xs.length + ys.length ≤ sizeLine then M.ret (.lst ((xs ++ ys).map .d)) else M.stuck
  | _, _ => M.stuck
def vSub : D → D → M OV
  | .int i, .int j => M.ret (.d (.int (i - j)))
  | _, _ => M.stuck
def mulOk (i j : Int) : Bool := decide (i.natAbs.log2 + j.natAbs.log2 < 1000000)
def vMul : D → D → M OV
  | .int i, .int j => if mulOk i j then M.ret (.d (.int (i * j))) else M.stuck
  | .lst xs, .int k => if decide (-(2 ^ 63) ≤ k) && decide (k < 2 ^ 63) && decide (xs.length * k.toNat ≤ sizeLine) then M.ret (.lst ((List.replicate k.toNat xs).flatten.map .d)) else M.stuck
  | .tup xs, .int k => if !xs.isEmpty && decide (2 ≤ k) && decide (k ≤ 1000) && decide (xs.length ≤ 1000) then M.ret (.d (.tup (List.replicate k.toNat xs).flatten)) else M.stuck
  | _, _ => M.stuck
def vFdiv : D → D → M OV
  | .int i, .int j => if decide (0 < j) && decide (j.natAbs.log2 < 9000) then M.ret (.d (.int (i / j))) else M.stuck
  | _, _ => M.stuck
def vMod : D → D → M OV
  | .int i, .int j => if 0 < j then M.ret (.d (.int (i % j))) else M.stuck
  | _, _ => M.stuck
def vPow : D → D → M OV
  | .int i, .int j => if decide (0 ≤ j) && decide (j ≤ 1000000) && decide (i.natAbs < 2 ^ 64) then M.ret (.d (.int (i ^ j.toNat))) else M.stuck
  | _, _ => M.stuck
def vNeg : D → M OV
  | .int i => M.ret (.d (.int (-i)))
  | _ => M.stuck

section
variable {X : Cx} {T : Tbl} {W : XK} {σ : L2.St} {H : Hp}
/-- an operator keeps to what it computes -/
def BinOk (T : Tbl) (W : XK) (r : R2) (f : D → D → M OV) : Prop := ∀ (v w : V) (x y : D) (σ : L2.St) (H : Hp) (Q : VK), tR T W [w, v] [y, x] (f x y) σ H Q → r v w H Q
theorem RBs.two {F : Hp} {v w : V} {x y : D} (h : RBs T F H [w, v] [y, x]) : RB T F H v x ∧ RB T F H w y := by
  cases h with
  | cons a b => cases b with
    | cons b _ => exact ⟨b, a⟩
theorem RBs.one {F : Hp} {v : V} {x : D} (h : RBs T F H [v] [x]) : RB T F H v x := by
  cases h with
  | cons a b => exact a
theorem RDs.toO {F H : Hp} {vs : List V} {xs : List D} (h : RDs T F vs xs) : ROs T F H vs (xs.map .d) [] := ROs.of_ds h
abbrev rAddS : R2 := fun x y H Q => ∃ i j, x = .str i ∧ y = .str j ∧ i.length + j.length ≤ sizeLine ∧ Q (.str (i ++ j)) H
def rAddAll (K : PySem.W.Frag) : R2 := fun x y H Q => ((rI0 (fun i j => .int (i + j)) x y H Q ∨ rAddS x y H Q) ∨ rCatA K x y H Q) ∨ rCat x y H Q
theorem op_addAll : OpR X (binaryOp .Add) (rAddAll X.K) := ((op_add.or op_add_str).or op_catA).or op_cat
theorem upd_le {H : Hp} {p : Addr} {o : HO} (hp : H p = none) : Same H (upd H p o) := fun b u e => by rw [upd_ne (ne_of_none e hp)]; exact e
theorem free_F {F H : Hp} (s : Same F H) {p : Addr} (hp : H p = none) : F p = none := by
  cases z : F p with
  | none => rfl
  | some u => rw [s p u z] at hp; cases hp
/-- a new tuple, a new list -/
theorem rd_newT {F : Hp} {p : Addr} {vs : List V} {xs : List D} (hp : F p = none) (h : RDs T F vs xs) : RD T (upd F p (.tup vs)) (.ref p) (.tup xs) :=
  .tup (SqT.of upd_same) (h.mono (upd_le hp))
theorem ro_newL {F H : Hp} {p : Addr} {vs : List V} {xs : List D} (h : RDs T F vs xs) : RO T F (upd H p (.lst vs)) (.ref p) (.lst (xs.map .d)) [p] :=
  .lst (fp := []) upd_same h.toO
theorem vAdd_ok : BinOk T W (rAddAll T.K) vAdd := by
  intro v w x y σ H Q h
  cases x <;> cases y <;> simp only [vAdd] at h <;> try exact (tR_stuck h).elim
  · obtain ⟨F, rv, s, k⟩ := tR_ret h
    obtain ⟨a, b⟩ := rv.two
    exact .inl (.inl (.inl ⟨_, _, a.int_inv, b.int_inv, k _ (.int _)⟩))
  · split at h
    · rename_i hl
      obtain ⟨F, rv, s, k⟩ := tR_ret h
      obtain ⟨a, b⟩ := rv.two
      exact .inl (.inl (.inr ⟨_, _, a.str_inv, b.str_inv, hl, k _ (.str _)⟩))
    · exact (tR_stuck h).elim
  · split at h
    · rename_i hl
      obtain ⟨F, rv, s, k, kn⟩ := tR_new h
      obtain ⟨a, b⟩ := rv.two
      obtain ⟨p, vs, rfl, h1, r1⟩ := a.tup_inv s
      obtain ⟨q, ws, rfl, h2, r2⟩ := b.tup_inv s
      refine .inl (.inr ⟨p, q, vs, ws, rfl, rfl, h1, h2, by rw [r1.length, r2.length]; exact hl, fun e => k _ ?_, fun _ e => k _ ?_, fun _ _ n hn => kn n _ hn (rd_newT (free_F s hn) (r1.append r2))⟩)
      · subst e
        cases r1
        cases b with
        | fro b => exact b
      · subst e
        cases r2
        rw [List.append_nil]
        cases a with
        | fro a => exact a
    · exact (tR_stuck h).elim
  · split at h
    · rename_i hl
      obtain ⟨F, rv, s, k⟩ := tR_own h
      obtain ⟨a, b⟩ := rv.two
      obtain ⟨p, vs, rfl, h1, r1⟩ := a.lst_inv s
      obtain ⟨q, ws, rfl, h2, r2⟩ := b.lst_inv s
      exact .inr ⟨p, q, vs, ws, rfl, rfl, h1, h2, by rw [r1.length, r2.length]; exact hl, fun n hn => k n _ hn (ro_newL (r1.append r2))⟩
    · exact (tR_stuck h).elim
theorem vSub_ok : BinOk T W (rI0 fun i j => .int (i - j)) vSub := by
  intro v w x y σ H Q h
  cases x <;> cases y <;> simp only [vSub] at h <;> try exact (tR_stuck h).elim
  obtain ⟨F, rv, s, k⟩ := tR_ret h
  obtain ⟨a, b⟩ := rv.two
  exact ⟨_, _, a.int_inv, b.int_inv, k _ (.int _)⟩
def rMulAll (K : PySem.W.Frag) : R2 := fun x y H Q => (rI CMulW (fun i j => .int (i * j)) x y H Q ∨ rRep x y H Q) ∨ rRepT K x y H Q
theorem op_mulAll : OpR X (binaryOp .Mult) (rMulAll X.K) := (op_mulW.or op_rep).or op_repT
theorem RDs.flat {F : Hp} {vs : List V} {xs : List D} (h : RDs T F vs xs) : ∀ n : Nat, RDs T F (List.replicate n vs).flatten (List.replicate n xs).flatten
  | 0 => .nil
  | n + 1 => by
    rw [List.replicate_succ, List.replicate_succ, List.flatten_cons, List.flatten_cons]
    exact h.append (RDs.flat h n)
theorem vMul_ok : BinOk T W (rMulAll T.K) vMul := by
  intro v w x y σ H Q h
  cases x <;> cases y <;> simp only [vMul] at h <;> try exact (tR_stuck h).elim
  · split at h
    · rename_i hl
      obtain ⟨F, rv, s, k⟩ := tR_ret h
      obtain ⟨a, b⟩ := rv.two
      exact .inl (.inl ⟨_, _, a.int_inv, b.int_inv, (of_decide_eq_true (show decide _ = true from hl) : _ < 1000000), k _ (.int _)⟩)
    · exact (tR_stuck h).elim
  · split at h
    · rename_i hl
      simp only [Bool.and_eq_true, decide_eq_true_eq, Bool.not_eq_true', List.isEmpty_eq_false_iff] at hl
      obtain ⟨F, rv, s, k, kn⟩ := tR_new h
      obtain ⟨a, b⟩ := rv.two
      obtain ⟨p, vs, rfl, h1, r1⟩ := a.tup_inv s
      refine .inr ⟨p, _, vs, rfl, b.int_inv, h1, fun e => hl.1.1.1 ?_, hl.1.1.2, hl.1.2, by rw [r1.length]; exact hl.2, fun n hn => kn n _ hn (rd_newT (free_F s hn) (r1.flat _))⟩
      subst e
      cases r1
      rfl
    · exact (tR_stuck h).elim
  · split at h
    · rename_i hl
      simp only [Bool.and_eq_true, decide_eq_true_eq] at hl
      obtain ⟨F, rv, s, k⟩ := tR_own h
      obtain ⟨a, b⟩ := rv.two
      obtain ⟨p, vs, rfl, h1, r1⟩ := a.lst_inv s
      exact .inl (.inr ⟨p, _, vs, rfl, b.int_inv, h1, hl.1.1, hl.1.2, by rw [r1.length]; exact hl.2, fun n hn => k n _ hn (ro_newL (r1.flat _))⟩)
    · exact (tR_stuck h).elim
theorem vFdiv_ok : BinOk T W (rI CDivW fun i j => .int (i / j)) vFdiv := by
  intro v w x y σ H Q h
  cases x <;> cases y <;> simp only [vFdiv] at h <;> try exact (tR_stuck h).elim
  split at h
  · rename_i hl
    simp only [Bool.and_eq_true, decide_eq_true_eq] at hl
    obtain ⟨F, rv, s, k⟩ := tR_ret h
    obtain ⟨a, b⟩ := rv.two
    exact ⟨_, _, a.int_inv, b.int_inv, hl, k _ (.int _)⟩
  · exact (tR_stuck h).elim
theorem vMod_ok : BinOk T W (rI (fun _ j => 0 < j) fun i j => .int (i % j)) vMod := by
  intro v w x y σ H Q h
  cases x <;> cases y <;> simp only [vMod] at h <;> try exact (tR_stuck h).elim
  split at h
  · rename_i hl
    obtain ⟨F, rv, s, k⟩ := tR_ret h
    obtain ⟨a, b⟩ := rv.two
    exact ⟨_, _, a.int_inv, b.int_inv, hl, k _ (.int _)⟩
  · exact (tR_stuck h).elim
theorem vPow_ok : BinOk T W (rI CPow fun i j => .int (i ^ j.toNat)) vPow := by
  intro v w x y σ H Q h
  cases x <;> cases y <;> simp only [vPow] at h <;> try exact (tR_stuck h).elim
  split at h
  · rename_i hl
    simp only [Bool.and_eq_true, decide_eq_true_eq] at hl
    obtain ⟨F, rv, s, k⟩ := tR_ret h
    obtain ⟨a, b⟩ := rv.two
    exact ⟨_, _, a.int_inv, b.int_inv, ⟨hl.1.1, hl.1.2, hl.2⟩, k _ (.int _)⟩
  · exact (tR_stuck h).elim
end

/-! ### comparisons -/
inductive COp where
  | eq | ne | lt | le | gt | ge | isin | notin | isN | notN
def COp.op : COp → CmpOp
  | .eq => .Eq
  | .ne => .NotEq
  | .lt => .Lt
  | .le => .LtE
  | .gt => .Gt
  | .ge => .GtE
  | .isin => .In
  | .notin => .NotIn
  | .isN => .Is
  | .notN => .IsNot
def vEq (x y : D) : M Bool := if D.ok 60 x && D.ok 60 y then M.ret (D.eqv x y) else M.stuck
def vIn (x : D) : D → M Bool
  | .lst ys => if D.ok 60 x && D.ok 60 (.lst ys) then M.ret (ys.any fun y => D.eqv y x) else M.stuck
  | .tup ys => if D.ok 60 x && D.ok 60 (.tup ys) then M.ret (ys.any fun y => D.eqv y x) else M.stuck
  | .str z => match x with
    | .str c => if c.cps.size = 1 then M.ret (decide (c.cps.getD 0 0 ∈ z.cps.toList)) else M.stuck
    | _ => M.stuck
  | _ => M.stuck
def vLt : D → D → M Bool
  | .int i, .int j => M.ret (decide (i < j))
  | .str x, .str y => M.ret (decide (x.cps.toList < y.cps.toList))
  | _, _ => M.stuck
def vLe : D → D → M Bool
  | .int i, .int j => M.ret (decide (i ≤ j))
  | .str x, .str y => M.ret (!decide (y.cps.toList < x.cps.toList))
  | _, _ => M.stuck
def D.isN : D → Bool
  | .non => true
  | _ => false
def vIsN (x : D) : D → M Bool
  | .non => M.ret x.isN
  | _ => M.stuck
def mNot (m : M Bool) : M Bool := M.bind m fun b => M.ret (!b)
def vCmp : COp → D → D → M Bool
  | .eq, x, y => vEq x y
  | .ne, x, y => mNot (vEq x y)
  | .lt, x, y => vLt x y
  | .le, x, y => vLe x y
  | .gt, x, y => vLt y x
  | .ge, x, y => vLe y x
  | .isin, x, y => vIn x y
  | .notin, x, y => mNot (vIn x y)
  | .isN, x, y => vIsN x y
  | .notN, x, y => mNot (vIsN x y)
/-- a comparison's rule: its answer is a truth value -/
def rTest (r : R2) (x y : V) (H : Hp) (Q : Bool → Hp → Prop) : Prop := r x y H fun z H' => ∃ k, z = .bl k ∧ Q k H'
def CmpOk (T : Tbl) (W : XK) (r : R2) (f : D → D → M Bool) : Prop := ∀ (v w : V) (x y : D) (σ : L2.St) (H : Hp) (Q : Bool → Hp → Prop), tRT T W [w, v] [y, x] (f x y) σ H Q → rTest r v w H Q
section
variable {X : Cx} {T : Tbl} {W : XK} {σ : L2.St} {H : Hp}
def rInT (K : PySem.W.Frag) (neg : Bool) : R2 := fun x y H Q => ∃ d ds, Dp K H x d ∧ (Dp K H y (.list ds) ∨ Dp K H y (.tuple ds)) ∧ SeqAt.shaped d = true ∧ SeqAt.shaped (.list ds) = true ∧ Q (.bl (if neg then !ds.any fun z => PyData.eqv z d else ds.any fun z => PyData.eqv z d)) H
theorem op_inT (hu : X.A.units + 65 < cLine) : OpR X (compareOp .In) (rInT X.K false) := by
  intro pins s σ H x y v u Q I rx ry h
  obtain ⟨d, ds, hd, he, sd, se, q⟩ := h
  obtain ⟨as, r1⟩ := Dp.reads I d x v hd rx
  rcases he with he | he
  · obtain ⟨bs, r2⟩ := Dp.reads I (.list ds) y u he ry
    exact SeqAt.in_list_reads r2 r1 (SeqAt.canLay_of_shaped se) (SeqAt.canLay_of_shaped sd) (PyProof.Rows.room_in_shaped sd hu) ⟨.bl _, H, I, rfl, q⟩
  · obtain ⟨bs, r2⟩ := Dp.reads I (.tuple ds) y u he ry
    exact SeqAt.in_tuple_reads r2 r1 (SeqAt.canLay_of_shaped se) (SeqAt.canLay_of_shaped sd) (PyProof.Rows.room_in_shaped sd hu) ⟨.bl _, H, I, rfl, q⟩
theorem op_notInT (hu : X.A.units + 65 < cLine) : OpR X (compareOp .NotIn) (rInT X.K true) := by
  intro pins s σ H x y v u Q I rx ry h
  obtain ⟨d, ds, hd, he, sd, se, q⟩ := h
  obtain ⟨as, r1⟩ := Dp.reads I d x v hd rx
  rcases he with he | he
  · obtain ⟨bs, r2⟩ := Dp.reads I (.list ds) y u he ry
    exact SeqAt.notIn_list_reads r2 r1 (SeqAt.canLay_of_shaped se) (SeqAt.canLay_of_shaped sd) (PyProof.Rows.room_in_shaped sd hu) ⟨.bl _, H, I, rfl, q⟩
  · obtain ⟨bs, r2⟩ := Dp.reads I (.tuple ds) y u he ry
    exact SeqAt.notIn_tuple_reads r2 r1 (SeqAt.canLay_of_shaped se) (SeqAt.canLay_of_shaped sd) (PyProof.Rows.room_in_shaped sd hu) ⟨.bl _, H, I, rfl, q⟩
abbrev rInSg (neg : Bool) : R2 := fun x y H Q => ∃ (c : Nat) (z : Str), x = .str ⟨#[c]⟩ ∧ y = .str z ∧ Q (.bl (if neg then !decide (c ∈ z.cps.toList) else decide (c ∈ z.cps.toList))) H
theorem OpR.imp {f : Value → Value → Sem Value} {r r' : R2} (h : OpR X f r) (i : ∀ x y H Q, r' x y H Q → r x y H Q) : OpR X f r' := fun pins s σ H x y v u Q I rx ry q => h pins s σ H x y v u Q I rx ry (i _ _ _ _ q)
theorem op_inSg : OpR X (compareOp .In) (rInSg false) := OpR.imp op_in_sign fun x y H Q ⟨c, z, a, b, q⟩ => ⟨c, z, a, b, q⟩
theorem op_notInSg : OpR X (compareOp .NotIn) (rInSg true) := OpR.imp op_notIn_sign fun x y H Q ⟨c, z, a, b, q⟩ => ⟨c, z, a, b, q⟩
def rCmp (K : PySem.W.Frag) : COp → R2
  | .eq => rEqD K
  | .ne => rNeD K
  | .lt => fun x y H Q => rI0 (fun i j => .bl (decide (i < j))) x y H Q ∨ ∃ i j, x = .str i ∧ y = .str j ∧ Q (.bl (decide (i.cps.toList < j.cps.toList))) H
  | .le => fun x y H Q => rI0 (fun i j => .bl (decide (i ≤ j))) x y H Q ∨ ∃ i j, x = .str i ∧ y = .str j ∧ Q (.bl (!decide (j.cps.toList < i.cps.toList))) H
  | .gt => fun x y H Q => rI0 (fun i j => .bl (decide (j < i))) x y H Q ∨ ∃ i j, x = .str i ∧ y = .str j ∧ Q (.bl (decide (j.cps.toList < i.cps.toList))) H
  | .ge => fun x y H Q => rI0 (fun i j => .bl (decide (j ≤ i))) x y H Q ∨ ∃ i j, x = .str i ∧ y = .str j ∧ Q (.bl (!decide (i.cps.toList < j.cps.toList))) H
  | .isin => fun x y H Q => rInT K false x y H Q ∨ rInSg false x y H Q
  | .notin => fun x y H Q => rInT K true x y H Q ∨ rInSg true x y H Q
  | .isN => fun x y H Q => y = .non ∧ Q (.bl (decide (x = .non))) H
  | .notN => fun x y H Q => y = .non ∧ Q (.bl (!decide (x = .non))) H
theorem op_cmp (hu : X.A.units + 65 < cLine) : ∀ c : COp, OpR X (compareOp c.op) (rCmp X.K c)
  | .eq => op_eqD (by omega)
  | .ne => op_neD (by omega)
  | .lt => op_lt.or op_lt_str
  | .le => op_le.or op_le_str
  | .gt => op_gt.or op_gt_str
  | .ge => op_ge.or op_ge_str
  | .isin => (op_inT hu).or op_inSg
  | .notin => (op_notInT hu).or op_notInSg
  | .isN => op_isN
  | .notN => op_notN
theorem tRT_not {vs : List V} {xs : List D} {m : M Bool} {Q : Bool → Hp → Prop} (h : tRT T W vs xs (mNot m) σ H Q) : tRT T W vs xs m σ H fun b H' => Q (!b) H' := by
  obtain ⟨F, ρ, fps, r, ok, rv, e, p⟩ := h
  rcases bind_cases e with ⟨b, ρ1, e1, e2⟩ | ⟨x, ρ1, e1, rfl⟩
  · cases e2
    exact ⟨F, ρ, fps, _, ok, rv, e1, p⟩
  · exact ⟨F, ρ, fps, _, ok, rv, e1, p⟩
theorem rv_non {F : Hp} {v : V} {x : D} (h : RB T F H v x) : decide (v = .non) = x.isN := by
  cases h with
  | fro h => cases h <;> rfl
  | lst _ _ => rfl
  | dK _ _ => rfl
  | dT _ _ => rfl
  | obj _ _ _ _ => rfl
theorem str_one {c : Str} (h : c.cps.size = 1) : c = ⟨#[c.cps.getD 0 0]⟩ := by
  obtain ⟨⟨l⟩⟩ := c
  match l, h with
  | [a], _ => rfl
theorem vEq_ok : CmpOk T W (rEqD T.K) vEq := by
  intro v w x y σ H Q h
  unfold vEq at h
  split at h
  · rename_i hl
    rw [Bool.and_eq_true] at hl
    obtain ⟨F, rv, s, k⟩ := tRT_ret h
    obtain ⟨a, b⟩ := rv.two
    exact ⟨_, _, a.dp s hl.1, b.dp s hl.2, D.ok_shaped hl.1, D.ok_shaped hl.2, _, rfl, k⟩
  · exact (tRT_stuck h).elim
theorem vNe_ok : CmpOk T W (rNeD T.K) fun x y => mNot (vEq x y) := by
  intro v w x y σ H Q h
  have h := tRT_not h
  unfold vEq at h
  split at h
  · rename_i hl
    rw [Bool.and_eq_true] at hl
    obtain ⟨F, rv, s, k⟩ := tRT_ret h
    obtain ⟨a, b⟩ := rv.two
    exact ⟨_, _, a.dp s hl.1, b.dp s hl.2, D.ok_shaped hl.1, D.ok_shaped hl.2, _, rfl, k⟩
  · exact (tRT_stuck h).elim
theorem any_pys (x : D) : ∀ ys : List D, ((D.pys ys).any fun z => PyData.eqv z x.py) = ys.any fun y => D.eqv y x
  | [] => by simp [D.pys]
  | y :: ys => by simp only [D.pys, List.any_cons, any_pys x ys]; rfl
theorem pys_shaped {ys : List D} (h : D.ok 60 (.lst ys) = true) : SeqAt.shaped (.list (D.pys ys)) = true := by
  have q := D.ok_shaped h
  simpa only [D.py] using q
theorem vIn_core {neg : Bool} {v w : V} {x y : D} {Q : Bool → Hp → Prop} (h : tRT T W [w, v] [y, x] (vIn x y) σ H fun b H' => Q (if neg then !b else b) H') : rTest (fun x y H Q => rInT T.K neg x y H Q ∨ rInSg neg x y H Q) v w H Q := by
  cases y <;> simp only [vIn] at h <;> try exact (tRT_stuck h).elim
  · split at h
    · split at h
      · rename_i hc
        obtain ⟨F, rv, s, k⟩ := tRT_ret h
        obtain ⟨a, b⟩ := rv.two
        exact .inr ⟨_, _, by rw [a.str_inv, ← str_one hc], b.str_inv, _, rfl, k⟩
      · exact (tRT_stuck h).elim
    · exact (tRT_stuck h).elim
  · split at h
    · rename_i hl
      rw [Bool.and_eq_true] at hl
      obtain ⟨F, rv, s, k⟩ := tRT_ret h
      obtain ⟨a, b⟩ := rv.two
      have b' := b.dp s hl.2
      simp only [D.py] at b'
      have hl2 : D.ok 60 (.lst _) = true := hl.2
      exact .inl ⟨_, _, a.dp s hl.1, .inr b', D.ok_shaped hl.1, pys_shaped hl2, _, rfl, by rw [any_pys]; exact k⟩
    · exact (tRT_stuck h).elim
  · split at h
    · rename_i hl
      rw [Bool.and_eq_true] at hl
      obtain ⟨F, rv, s, k⟩ := tRT_ret h
      obtain ⟨a, b⟩ := rv.two
      have b' := b.dp s hl.2
      simp only [D.py] at b'
      exact .inl ⟨_, _, a.dp s hl.1, .inl b', D.ok_shaped hl.1, pys_shaped hl.2, _, rfl, by rw [any_pys]; exact k⟩
    · exact (tRT_stuck h).elim
theorem RBs.swap {F : Hp} {v w : V} {x y : D} (h : RBs T F H [w, v] [y, x]) : RBs T F H [v, w] [x, y] := by
  obtain ⟨a, b⟩ := h.two
  exact .cons a (.cons b .nil)
theorem vLt_core {v w : V} {x y : D} {Q : Bool → Hp → Prop} (h : tRT T W [w, v] [y, x] (vLt x y) σ H Q) : (∃ i j : Int, v = .int i ∧ w = .int j ∧ Q (decide (i < j)) H) ∨ ∃ i j : Str, v = .str i ∧ w = .str j ∧ Q (decide (i.cps.toList < j.cps.toList)) H := by
  cases x <;> cases y <;> simp only [vLt] at h <;> try exact (tRT_stuck h).elim
  · obtain ⟨F, rv, s, k⟩ := tRT_ret h
    obtain ⟨a, b⟩ := rv.two
    exact .inl ⟨_, _, a.int_inv, b.int_inv, k⟩
  · obtain ⟨F, rv, s, k⟩ := tRT_ret h
    obtain ⟨a, b⟩ := rv.two
    exact .inr ⟨_, _, a.str_inv, b.str_inv, k⟩
theorem vLe_core {v w : V} {x y : D} {Q : Bool → Hp → Prop} (h : tRT T W [w, v] [y, x] (vLe x y) σ H Q) : (∃ i j : Int, v = .int i ∧ w = .int j ∧ Q (decide (i ≤ j)) H) ∨ ∃ i j : Str, v = .str i ∧ w = .str j ∧ Q (!decide (j.cps.toList < i.cps.toList)) H := by
  cases x <;> cases y <;> simp only [vLe] at h <;> try exact (tRT_stuck h).elim
  · obtain ⟨F, rv, s, k⟩ := tRT_ret h
    obtain ⟨a, b⟩ := rv.two
    exact .inl ⟨_, _, a.int_inv, b.int_inv, k⟩
  · obtain ⟨F, rv, s, k⟩ := tRT_ret h
    obtain ⟨a, b⟩ := rv.two
    exact .inr ⟨_, _, a.str_inv, b.str_inv, k⟩
theorem tRT_swap {v w : V} {x y : D} {m : M Bool} {Q : Bool → Hp → Prop} (h : tRT T W [w, v] [y, x] m σ H Q) : tRT T W [v, w] [x, y] m σ H Q := by
  obtain ⟨F, ρ, fps, r, ok, rv, e, p⟩ := h
  exact ⟨F, ρ, fps, r, ok, rv.swap, e, p⟩
theorem vCmp_ok : ∀ c : COp, CmpOk T W (rCmp T.K c) (vCmp c)
  | .eq => vEq_ok
  | .ne => vNe_ok
  | .lt => fun v w x y σ H Q h => by
    rcases vLt_core h with ⟨i, j, a, b, q⟩ | ⟨i, j, a, b, q⟩
    · exact .inl ⟨i, j, a, b, _, rfl, q⟩
    · exact .inr ⟨i, j, a, b, _, rfl, q⟩
  | .le => fun v w x y σ H Q h => by
    rcases vLe_core h with ⟨i, j, a, b, q⟩ | ⟨i, j, a, b, q⟩
    · exact .inl ⟨i, j, a, b, _, rfl, q⟩
    · exact .inr ⟨i, j, a, b, _, rfl, q⟩
  | .gt => fun v w x y σ H Q h => by
    rcases vLt_core (tRT_swap h) with ⟨i, j, a, b, q⟩ | ⟨i, j, a, b, q⟩
    · exact .inl ⟨j, i, b, a, _, rfl, q⟩
    · exact .inr ⟨j, i, b, a, _, rfl, q⟩
  | .ge => fun v w x y σ H Q h => by
    rcases vLe_core (tRT_swap h) with ⟨i, j, a, b, q⟩ | ⟨i, j, a, b, q⟩
    · exact .inl ⟨j, i, b, a, _, rfl, q⟩
    · exact .inr ⟨j, i, b, a, _, rfl, q⟩
  | .isin => fun v w x y σ H Q h => vIn_core (neg := false) h
  | .notin => fun v w x y σ H Q h => vIn_core (neg := true) (tRT_not h)
  | .isN => fun v w x y σ H Q h => by
    cases y <;> simp only [vCmp, vIsN] at h <;> try exact (tRT_stuck h).elim
    obtain ⟨F, rv, s, k⟩ := tRT_ret h
    obtain ⟨a, b⟩ := rv.two
    exact ⟨b.non_inv, _, rfl, by rw [rv_non a]; exact k⟩
  | .notN => fun v w x y σ H Q h => by
    have h := tRT_not h
    cases y <;> simp only [vIsN] at h <;> try exact (tRT_stuck h).elim
    obtain ⟨F, rv, s, k⟩ := tRT_ret h
    obtain ⟨a, b⟩ := rv.two
    exact ⟨b.non_inv, _, rfl, by rw [rv_non a]; exact k⟩
end
end IR
end
section
set_option Elab.async false
set_option linter.all false
set_option maxRecDepth 100000
set_option maxHeartbeats 2000000
/-! IBlt: truth, items, slices, built-ins, isinstance. -/
namespace IR
open PySem PySem.Spec L2

section
variable {X : Cx} {T : Tbl} {W : XK} {σ : L2.St} {H : Hp}
theorem RDs.isEmpty {F : Hp} {vs : List V} {xs : List D} (h : RDs T F vs xs) : vs.isEmpty = xs.isEmpty := by cases h <;> rfl
end
/-! ### truth -/
def vTru : D → M Bool
  | .non => M.ret false
  | .bl b => M.ret b
  | .int i => M.ret (i != 0)
  | .str x => if x.length ≤ sizeLine then M.ret ((x.length : Int) != 0) else M.stuck
  | .tup xs => M.ret (!xs.isEmpty)
  | .lst xs => M.ret (!xs.isEmpty)
  | _ => M.stuck
section
variable {X : Cx} {T : Tbl} {W : XK} {σ : L2.St} {H : Hp}
theorem vTru_ok {v : V} {x : D} {Q : Bool → Hp → Prop} (h : tRT T W [v] [x] (vTru x) σ H Q) : ∃ k, TruV T.K v H k ∧ Q k H := by
  cases x <;> simp only [vTru] at h <;> try exact (tRT_stuck h).elim
  · obtain ⟨F, rv, s, k⟩ := tRT_ret h
    rw [rv.one.non_inv]
    exact ⟨_, rfl, k⟩
  · obtain ⟨F, rv, s, k⟩ := tRT_ret h
    rw [rv.one.bl_inv]
    exact ⟨_, rfl, k⟩
  · obtain ⟨F, rv, s, k⟩ := tRT_ret h
    rw [rv.one.int_inv]
    exact ⟨_, rfl, k⟩
  · split at h
    · rename_i hl
      obtain ⟨F, rv, s, k⟩ := tRT_ret h
      rw [rv.one.str_inv]
      exact ⟨_, ⟨hl, rfl⟩, k⟩
    · exact (tRT_stuck h).elim
  · obtain ⟨F, rv, s, k⟩ := tRT_ret h
    obtain ⟨p, vs, rfl, h1, r1⟩ := rv.one.tup_inv s
    exact ⟨_, .inr (.inl ⟨vs, h1, rfl⟩), by rw [r1.isEmpty]; exact k⟩
  · obtain ⟨F, rv, s, k⟩ := tRT_ret h
    obtain ⟨p, vs, rfl, h1, r1⟩ := rv.one.lst_inv s
    exact ⟨_, .inl ⟨vs, SqL.of h1, rfl⟩, by rw [r1.isEmpty]; exact k⟩
end

/-! ### items and slices -/
def vIdx : D → D → M OV
  | .tup xs, .int i => match atI xs i with
    | some x => M.ret (.d x)
    | none => M.stuck
  | .lst xs, .int i => match atI xs i with
    | some x => M.ret (.d x)
    | none => M.stuck
  | .str z, .int i => if z.length ≤ sizeLine then match atI z.cps.toList i with
    | some c => M.ret (.d (.str ⟨#[c]⟩))
    | none => M.stuck
    else M.stuck
  | _, _ => M.stuck
def cutL {α : Type} (xs : List α) (lo hi : Option Int) : List α := (xs.drop (HT.sIx xs.length 0 lo)).take (HT.sIx xs.length xs.length hi - HT.sIx xs.length 0 lo)
/-- a slice's end: written or not -/
def partOf : D → Option (Option Int)
  | .non => some none
  | .int i => some (some i)
  | _ => none
def vSlc (x : D) (lo hi : Option Int) : M OV := match x with
  | .tup xs => M.ret (.d (.tup (cutL xs lo hi)))
  | .lst xs => M.ret (.lst ((cutL xs lo hi).map .d))
  | .rol xs => M.ret (.lst ((cutL xs lo hi).map .d))
  | .str z => if z.length ≤ sizeLine then M.ret (.d (.str (cutS z lo hi))) else M.stuck
  | _ => M.stuck
section
variable {X : Cx} {T : Tbl} {W : XK} {σ : L2.St} {H : Hp}
theorem RDs.atI {F : Hp} {vs : List V} {xs : List D} {i : Int} {x : D} (h : RDs T F vs xs) (e : atI xs i = some x) : ∃ v, atI vs i = some v ∧ RD T F v x := by
  unfold L2.atI at e ⊢
  rw [h.length]
  cases q : ixN xs.length i with
  | none => rw [q] at e; cases e
  | some j =>
    rw [q] at e
    exact h.get (i := j) e
theorem vIdx_ok : BinOk T W (rIx T.K) vIdx := by
  intro v w x y σ H Q h
  cases x <;> cases y <;> simp only [vIdx] at h <;> try exact (tR_stuck h).elim
  · split at h
    · split at h
      · rename_i hl _ c hc
        obtain ⟨F, rv, s, k⟩ := tR_ret h
        obtain ⟨a, b⟩ := rv.two
        exact .inr (.inr ⟨_, _, _, a.str_inv, b.int_inv, hl, hc, k _ (.str _)⟩)
      · exact (tR_stuck h).elim
    · exact (tR_stuck h).elim
  · split at h
    · rename_i hx
      obtain ⟨F, rv, s, k⟩ := tR_ret h
      obtain ⟨a, b⟩ := rv.two
      obtain ⟨p, vs, rfl, h1, r1⟩ := a.tup_inv s
      obtain ⟨u, hu, ru⟩ := r1.atI hx
      exact .inr (.inl ⟨p, vs, _, u, rfl, b.int_inv, h1, hu, k _ ru⟩)
    · exact (tR_stuck h).elim
  · split at h
    · rename_i hx
      obtain ⟨F, rv, s, k⟩ := tR_ret h
      obtain ⟨a, b⟩ := rv.two
      obtain ⟨p, vs, rfl, h1, r1⟩ := a.lst_inv s
      obtain ⟨u, hu, ru⟩ := r1.atI hx
      exact .inl ⟨p, vs, _, u, rfl, b.int_inv, SqL.of h1, hu, k _ ru⟩
    · exact (tR_stuck h).elim
theorem RDs.cut {F : Hp} {vs : List V} {xs : List D} (h : RDs T F vs xs) (lo hi : Option Int) : RDs T F (cutV vs lo hi) (cutL xs lo hi) := by
  unfold cutV cutL
  rw [h.length]
  exact (h.drop _).take _
def rSlAll (K : PySem.W.Frag) : V → Option Int → Option Int → Hp → VK → Prop := fun x lo hi H Q => (rSlL K x lo hi H Q ∨ rSlA K x lo hi H Q) ∨ rSlS x lo hi H Q
theorem sl_all : SlR X (rSlAll X.K) := (sl_list.or sl_tupA).or sl_str
theorem cut_whole {α : Type} {xs : List α} {lo hi : Option Int} (h : HT.sIx xs.length 0 lo = 0 ∧ HT.sIx xs.length xs.length hi = xs.length) : cutL xs lo hi = xs := by
  unfold cutL
  rw [h.1, h.2]
  simp
theorem vSlc_ok {v : V} {x : D} {lo hi : Option Int} {Q : VK} (h : tR T W [v] [x] (vSlc x lo hi) σ H Q) : rSlAll T.K v lo hi H Q := by
  cases x <;> simp only [vSlc] at h <;> try exact (tR_stuck h).elim
  · split at h
    · rename_i hl
      obtain ⟨F, rv, s, k⟩ := tR_ret h
      exact .inr ⟨_, rv.one.str_inv, hl, k _ (.str _)⟩
    · exact (tR_stuck h).elim
  · obtain ⟨F, rv, s, k, kn⟩ := tR_new h
    have a := rv.one
    obtain ⟨p, vs, rfl, h1, r1⟩ := a.tup_inv s
    refine .inl (.inr ⟨p, vs, rfl, h1, fun e => k _ ?_, fun _ n hn => kn n _ hn (rd_newT (free_F s hn) (r1.cut lo hi))⟩)
    rw [r1.length] at e
    rw [cut_whole e]
    cases a with
    | fro a => exact a
  · obtain ⟨F, rv, s, k⟩ := tR_own h
    obtain ⟨p, vs, rfl, h1, r1⟩ := rv.one.lst_inv s
    exact .inl (.inl ⟨p, vs, rfl, SqL.of h1, fun n hn => k n _ hn (ro_newL (r1.cut lo hi))⟩)
  · obtain ⟨F, rv, s, k⟩ := tR_own h
    obtain ⟨p, vs, rfl, h1, r1⟩ := rv.one.rol_inv s
    exact .inl (.inl ⟨p, vs, rfl, h1, fun n hn => k n _ hn (ro_newL (r1.cut lo hi))⟩)
end

/-! ### built-ins of one value -/
inductive Blt where
  | len | abs | int | str | list | tuple | all | any | sum | max | min
def Blt.name : Blt → Str
  | .len => "len"
  | .abs => "abs"
  | .int => "int"
  | .str => "str"
  | .list => "list"
  | .tuple => "tuple"
  | .all => "all"
  | .any => "any"
  | .sum => "sum"
  | .max => "max"
  | .min => "min"
def D.bls : List D → Option (List Bool)
  | [] => some []
  | .bl b :: r => (D.bls r).map (b :: ·)
  | _ => none
def D.ints : List D → Option (List Int)
  | [] => some []
  | .int i :: r => (D.ints r).map (i :: ·)
  | _ => none
theorem bls_map (bs : List Bool) : D.bls (bs.map .bl) = some bs := by
  induction bs with
  | nil => rfl
  | cons b r ih => simp [D.bls, ih]
theorem ints_map (is : List Int) : D.ints (is.map .int) = some is := by
  induction is with
  | nil => rfl
  | cons b r ih => simp [D.ints, ih]
def maxL : Int → List Int → Int
  | m, [] => m
  | m, i :: r => maxL (if m < i then i else m) r
def minL : Int → List Int → Int
  | m, [] => m
  | m, i :: r => minL (if i < m then i else m) r
theorem maxL_mem : ∀ (r : List Int) (m : Int), maxL m r ∈ m :: r
  | [], m => by simp [maxL]
  | i :: r, m => by
    have h := maxL_mem r (if m < i then i else m)
    unfold maxL
    rcases List.mem_cons.mp h with h | h
    · rw [h]; split <;> simp
    · exact List.mem_cons_of_mem _ (List.mem_cons_of_mem _ h)
theorem maxL_ge : ∀ (r : List Int) (m : Int), ∀ y ∈ m :: r, y ≤ maxL m r
  | [], m, y, h => by
    simp at h
    subst h
    exact Int.le_refl _
  | i :: r, m, y, h => by
    unfold maxL
    by_cases hc : m < i
    · rw [if_pos hc]
      have ih := maxL_ge r i
      have h0 := ih i List.mem_cons_self
      rcases List.mem_cons.mp h with e | h
      · subst e; omega
      · exact ih y h
    · rw [if_neg hc]
      have ih := maxL_ge r m
      have h0 := ih m List.mem_cons_self
      rcases List.mem_cons.mp h with e | h
      · subst e; omega
      · rcases List.mem_cons.mp h with e | h
        · subst e; omega
        · exact ih y (List.mem_cons_of_mem _ h)
theorem minL_mem : ∀ (r : List Int) (m : Int), minL m r ∈ m :: r
  | [], m => by simp [minL]
  | i :: r, m => by
    have h := minL_mem r (if i < m then i else m)
    unfold minL
    rcases List.mem_cons.mp h with h | h
    · rw [h]; split <;> simp
    · exact List.mem_cons_of_mem _ (List.mem_cons_of_mem _ h)
theorem minL_le : ∀ (r : List Int) (m : Int), ∀ y ∈ m :: r, minL m r ≤ y
  | [], m, y, h => by
    simp at h
    subst h
    exact Int.le_refl _
  | i :: r, m, y, h => by
    unfold minL
    by_cases hc : i < m
    · rw [if_pos hc]
      have ih := minL_le r i
      have h0 := ih i List.mem_cons_self
      rcases List.mem_cons.mp h with e | h
      · subst e; omega
      · exact ih y h
    · rw [if_neg hc]
      have ih := minL_le r m
      have h0 := ih m List.mem_cons_self
      rcases List.mem_cons.mp h with e | h
      · subst e; omega
      · rcases List.mem_cons.mp h with e | h
        · subst e; omega
        · exact ih y (List.mem_cons_of_mem _ h)
def vBlt : Blt → D → M OV
  | .len, .lst xs => M.ret (.d (.int xs.length))
  | .len, .tup xs => M.ret (.d (.int xs.length))
  | .len, .str z => if z.length ≤ sizeLine then M.ret (.d (.int z.length)) else M.stuck
  | .abs, .int i => M.ret (.d (.int (if i < 0 then -i else i)))
  | .int, .int i => M.ret (.d (.int i))
  | .int, .bl b => M.ret (.d (.int (if b then 1 else 0)))
  | .str, .int i => if i.natAbs.log2 < 1920 then M.ret (.d (.str (toString i))) else M.stuck
  | .list, .lst xs => M.ret (.lst (xs.map .d))
  | .list, .tup xs => M.ret (.lst (xs.map .d))
  | .tuple, .lst xs => M.ret (.d (.tup xs))
  | .tuple, .tup xs => M.ret (.d (.tup xs))
  | .all, .lst xs => match D.bls xs with
    | some bs => M.ret (.d (.bl (bs.all id)))
    | none => M.stuck
  | .any, .lst xs => match D.bls xs with
    | some bs => M.ret (.d (.bl (bs.any id)))
    | none => M.stuck
  | .sum, .lst xs => match D.ints xs with
    | some is => M.ret (.d (.int is.sum))
    | none => M.stuck
  | .max, .lst xs => match D.ints xs with
    | some (i :: r) => M.ret (.d (.int (maxL i r)))
    | _ => M.stuck
  | .min, .lst xs => match D.ints xs with
    | some (i :: r) => M.ret (.d (.int (minL i r)))
    | _ => M.stuck
  | _, _ => M.stuck
section
variable {X : Cx} {T : Tbl} {W : XK} {σ : L2.St} {H : Hp}
def rLenS (K : PySem.W.Frag) : List V → Hp → VK → Prop := fun xs H Q => ∃ x n, xs = [x] ∧ LenV K x H n ∧ Q (.int n) H
def rBlt (K : PySem.W.Frag) : Blt → List V → Hp → VK → Prop
  | .len => rLenS K
  | .abs => fun xs H Q => ∃ i, xs = [.int i] ∧ Q (.int (if i < 0 then -i else i)) H
  | .int => fun xs H Q => (∃ i, xs = [.int i] ∧ Q (.int i) H) ∨ ∃ k, xs = [.bl k] ∧ Q (.int (if k then 1 else 0)) H
  | .str => fun xs H Q => ∃ i, xs = [.int i] ∧ i.natAbs.log2 < 1920 ∧ Q (.str (toString i)) H
  | .list => fun xs H Q => ∃ p ys, xs = [.ref p] ∧ (SqL K H p ys ∨ SqT K H p ys) ∧ ∀ l, H l = none → Q (.ref l) (upd H l (.lst ys))
  | .tuple => fun xs H Q => ∃ p ys, xs = [.ref p] ∧ ((SqL K H p ys ∧ ∀ l, H l = none → Q (.ref l) (upd H l (.tup ys))) ∨ (SqT K H p ys ∧ Q (.ref p) H))
  | .all => rAll K
  | .any => rAny K
  | .sum => rSum K
  | .max => rMax K
  | .min => rMin K
def Blt.val : Blt → Value
  | .len => .builtin "len"
  | .abs => .builtin "abs"
  | .int => .type "int"
  | .str => .type "str"
  | .list => .type "list"
  | .tuple => .type "tuple"
  | .all => .builtin "all"
  | .any => .builtin "any"
  | .sum => .builtin "sum"
  | .max => .builtin "max"
  | .min => .builtin "min"
theorem call_blt (hc : X.calm = true) : ∀ b : Blt, CallR X b.val (rBlt X.K b)
  | .len => call_len
  | .abs => call_abs
  | .int => call_int1
  | .str => call_str_int
  | .list => call_list_of
  | .tuple => call_tuple_of
  | .all => cr_all hc
  | .any => cr_any hc
  | .sum => cr_sum hc
  | .max => cr_max hc
  | .min => cr_min hc
theorem RDs.bls {F : Hp} : ∀ {vs : List V} {xs : List D} {bs : List Bool}, RDs T F vs xs → D.bls xs = some bs → vs = bs.map V.bl
  | _, _, _, .nil, e => by cases e; rfl
  | _, x :: xs, bs, .cons q r, e => by
    cases x <;> simp only [D.bls] at e <;> try cases e
    cases h : D.bls xs with
    | none => rw [h] at e; cases e
    | some b =>
      rw [h] at e
      cases e
      cases q
      rw [RDs.bls r h]
      rfl
theorem RDs.ints {F : Hp} : ∀ {vs : List V} {xs : List D} {is : List Int}, RDs T F vs xs → D.ints xs = some is → vs = is.map V.int
  | _, _, _, .nil, e => by cases e; rfl
  | _, x :: xs, is, .cons q r, e => by
    cases x <;> simp only [D.ints] at e <;> try cases e
    cases h : D.ints xs with
    | none => rw [h] at e; cases e
    | some b =>
      rw [h] at e
      cases e
      cases q
      rw [RDs.ints r h]
      rfl
theorem vBlt_ok {v : V} {x : D} {Q : VK} (b : Blt) (h : tR T W [v] [x] (vBlt b x) σ H Q) : rBlt T.K b [v] H Q := by
  cases b <;> cases x <;> simp only [vBlt] at h <;> try exact (tR_stuck h).elim
  -- len
  · split at h
    · rename_i hl
      obtain ⟨F, rv, s, k⟩ := tR_ret h
      rw [rv.one.str_inv]
      exact ⟨_, _, rfl, ⟨hl, rfl⟩, k _ (.int _)⟩
    · exact (tR_stuck h).elim
  · obtain ⟨F, rv, s, k⟩ := tR_ret h
    obtain ⟨p, vs, rfl, h1, r1⟩ := rv.one.tup_inv s
    exact ⟨_, _, rfl, .inr ⟨vs, h1, rfl⟩, k _ (by rw [r1.length]; exact .int _)⟩
  · obtain ⟨F, rv, s, k⟩ := tR_ret h
    obtain ⟨p, vs, rfl, h1, r1⟩ := rv.one.lst_inv s
    exact ⟨_, _, rfl, .inl ⟨vs, SqL.of h1, rfl⟩, k _ (by rw [r1.length]; exact .int _)⟩
  -- abs
  · obtain ⟨F, rv, s, k⟩ := tR_ret h
    rw [rv.one.int_inv]
    exact ⟨_, rfl, k _ (.int _)⟩
  -- int
  · obtain ⟨F, rv, s, k⟩ := tR_ret h
    rw [rv.one.bl_inv]
    exact .inr ⟨_, rfl, k _ (.int _)⟩
  · obtain ⟨F, rv, s, k⟩ := tR_ret h
    rw [rv.one.int_inv]
    exact .inl ⟨_, rfl, k _ (.int _)⟩
  -- str
  · split at h
    · rename_i hl
      obtain ⟨F, rv, s, k⟩ := tR_ret h
      rw [rv.one.int_inv]
      exact ⟨_, rfl, hl, k _ (.str _)⟩
    · exact (tR_stuck h).elim
  -- list
  · obtain ⟨F, rv, s, k⟩ := tR_own h
    obtain ⟨p, vs, rfl, h1, r1⟩ := rv.one.tup_inv s
    exact ⟨p, vs, rfl, .inr h1, fun n hn => k n _ hn (ro_newL r1)⟩
  · obtain ⟨F, rv, s, k⟩ := tR_own h
    obtain ⟨p, vs, rfl, h1, r1⟩ := rv.one.lst_inv s
    exact ⟨p, vs, rfl, .inl (SqL.of h1), fun n hn => k n _ hn (ro_newL r1)⟩
  -- tuple
  · obtain ⟨F, rv, s, k⟩ := tR_ret h
    have a := rv.one
    obtain ⟨p, vs, rfl, h1, r1⟩ := a.tup_inv s
    refine ⟨p, vs, rfl, .inr ⟨h1, k _ ?_⟩⟩
    cases a with
    | fro a => exact a
  · obtain ⟨F, rv, s, k, kn⟩ := tR_new h
    obtain ⟨p, vs, rfl, h1, r1⟩ := rv.one.lst_inv s
    exact ⟨p, vs, rfl, .inl ⟨SqL.of h1, fun n hn => kn n _ hn (rd_newT (free_F s hn) r1)⟩⟩
  -- all, any
  · split at h
    · rename_i bs hb
      obtain ⟨F, rv, s, k⟩ := tR_ret h
      obtain ⟨p, vs, rfl, h1, r1⟩ := rv.one.lst_inv s
      rw [r1.bls hb] at h1
      exact ⟨p, bs, rfl, SqL.of h1, k _ (.bl _)⟩
    · exact (tR_stuck h).elim
  · split at h
    · rename_i bs hb
      obtain ⟨F, rv, s, k⟩ := tR_ret h
      obtain ⟨p, vs, rfl, h1, r1⟩ := rv.one.lst_inv s
      rw [r1.bls hb] at h1
      exact ⟨p, bs, rfl, SqL.of h1, k _ (.bl _)⟩
    · exact (tR_stuck h).elim
  -- sum, max, min
  · split at h
    · rename_i is hb
      obtain ⟨F, rv, s, k⟩ := tR_ret h
      obtain ⟨p, vs, rfl, h1, r1⟩ := rv.one.lst_inv s
      rw [r1.ints hb] at h1
      exact ⟨p, is, rfl, SqL.of h1, k _ (.int _)⟩
    · exact (tR_stuck h).elim
  · split at h
    · rename_i i r hb
      obtain ⟨F, rv, s, k⟩ := tR_ret h
      obtain ⟨p, vs, rfl, h1, r1⟩ := rv.one.lst_inv s
      rw [r1.ints hb] at h1
      refine ⟨p, _, rfl, SqL.of h1, by simp, fun m hm hy => ?_⟩
      have e : m = maxL i r := Int.le_antisymm (maxL_ge r i m hm) (hy _ (maxL_mem r i))
      rw [e]
      exact k _ (.int _)
    · exact (tR_stuck h).elim
  · split at h
    · rename_i i r hb
      obtain ⟨F, rv, s, k⟩ := tR_ret h
      obtain ⟨p, vs, rfl, h1, r1⟩ := rv.one.lst_inv s
      rw [r1.ints hb] at h1
      refine ⟨p, _, rfl, SqL.of h1, by simp, fun m hm hy => ?_⟩
      have e : m = minL i r := Int.le_antisymm (hy _ (minL_mem r i)) (minL_le r i m hm)
      rw [e]
      exact k _ (.int _)
    · exact (tR_stuck h).elim
end

/-! ### built-ins of two values -/
inductive Bl2 where
  | max | min
def Bl2.name : Bl2 → Str
  | .max => "max"
  | .min => "min"
def vBl2 : Bl2 → D → D → M OV
  | .max, .int i, .int j => M.ret (.d (.int (if j > i then j else i)))
  | .min, .int i, .int j => M.ret (.d (.int (if j < i then j else i)))
  | _, _, _ => M.stuck
def Bl2.id : Bl2 → String
  | .max => "max"
  | .min => "min"
section
variable {X : Cx} {T : Tbl} {W : XK} {σ : L2.St} {H : Hp}
def rBl2 : Bl2 → List V → Hp → VK → Prop
  | .max => fun xs H Q => ∃ i j, xs = [.int i, .int j] ∧ Q (.int (if j > i then j else i)) H
  | .min => fun xs H Q => ∃ i j, xs = [.int i, .int j] ∧ Q (.int (if j < i then j else i)) H
theorem call_bl2 (hc : X.calm = true) : ∀ b : Bl2, CallR X (.builtin b.id) (rBl2 b)
  | .max => call_max2 hc
  | .min => call_min2 hc
theorem vBl2_ok {v w : V} {x y : D} {Q : VK} (b : Bl2) (h : tR T W [w, v] [y, x] (vBl2 b x y) σ H Q) : rBl2 b [v, w] H Q := by
  cases b <;> cases x <;> cases y <;> simp only [vBl2] at h <;> try exact (tR_stuck h).elim
  all_goals
    obtain ⟨F, rv, s, k⟩ := tR_ret h
    obtain ⟨a, b⟩ := rv.two
    exact ⟨_, _, by rw [a.int_inv, b.int_inv], k _ (.int _)⟩
end

/-! ### isinstance, with built-in types -/
inductive Ty where
  | int | bool | str | list | tuple
  deriving DecidableEq
def Ty.s : Ty → String
  | .int => "int"
  | .bool => "bool"
  | .str => "str"
  | .list => "list"
  | .tuple => "tuple"
def D.isTy : D → Ty → Option Bool
  | .non, _ => some false
  | .bl _, .bool => some true
  | .bl _, .int => some true
  | .bl _, _ => some false
  | .int _, .int => some true
  | .int _, _ => some false
  | .str _, .str => some true
  | .str _, _ => some false
  | .tup _, .tuple => some true
  | .tup _, _ => some false
  | .lst _, .list => some true
  | .lst _, _ => some false
  | _, _ => none
def D.isTys (x : D) : List Ty → Option Bool
  | [] => some false
  | t :: r => match x.isTy t with
    | some true => some true
    | some false => D.isTys x r
    | none => none
section
variable {X : Cx} {T : Tbl} {W : XK} {σ : L2.St} {H : Hp}
def D.tyV : D → Option Value
  | .non => some (.type "NoneType")
  | .bl _ => some (.type "bool")
  | .int _ => some (.type "int")
  | .str _ => some (.type "str")
  | .tup _ => some (.type "tuple")
  | .lst _ => some (.type "list")
  | _ => none
theorem tyV_kit {K : PySem.W.Frag} {x : D} {t : Ty} {b : Bool} (h : x.isTy t = some b) : ∃ u, x.tyV = some u ∧ PySem.W.kitOne K u (.type t.s) = some b := by
  cases x <;> cases t <;> simp only [D.isTy, Option.some.injEq, reduceCtorEq] at h <;> subst h <;> exact ⟨_, rfl, by first | rfl | kernel_rfl | decide +kernel⟩
theorem RB.ty {F : Hp} (s : Same F H) {v : V} {x : D} {u : Value} (h : RB T F H v x) (e : x.tyV = some u) : TyX T.K H v u := by
  cases x <;> simp only [D.tyV, Option.some.injEq, reduceCtorEq] at e <;> subst e
  · rw [h.non_inv]; exact .base .non
  · rw [h.bl_inv]; exact .base (.bl _)
  · rw [h.int_inv]; exact .base (.int _)
  · rw [h.str_inv]; exact .base (.str _)
  · obtain ⟨p, vs, rfl, h1, r1⟩ := h.tup_inv s
    rcases h1 with (h1 | ⟨o, h1⟩) | ⟨o, its, n, h1, h2, _⟩
    · exact .base (.tup h1)
    · exact .fTuple h1
    · exact .kTuple h1 h2
  · obtain ⟨p, vs, rfl, h1, r1⟩ := h.lst_inv s
    exact .base (.lst h1)
end
end IR
end
section
set_option Elab.async false
set_option linter.all false
set_option maxRecDepth 100000
set_option maxHeartbeats 2000000
/-! IExp: expressions as data, and what they compute. -/
namespace IR
open PySem PySem.Spec L2

/-! ### names -/
def OV.isD : OV → Option D
  | .d x => some x
  | _ => none
def OV.ds : List OV → Option (List D)
  | [] => some []
  | .d x :: r => (OV.ds r).map (x :: ·)
  | _ => none
theorem ds_map (xs : List D) : OV.ds (xs.map .d) = some xs := by
  induction xs with
  | nil => rfl
  | cons x r ih => simp [OV.ds, ih]
/-- what may be looked at, as data -/
def OV.flat : OV → Option D
  | .d x => some x
  | .lst os => (OV.ds os).map .lst
  | .dic kvs => some (.dic kvs)
  | .obj c os => (OV.ds os).map (.obj c)
def mVar (i : Nat) : M OV := fun ρ => match ρ[i]? with
  | some (some o) => some (.ok (.d o.fz), ρ.set i (some (.d o.fz)))
  | _ => none
def mMov (i : Nat) : M OV := fun ρ => match ρ[i]? with
  | some (some o) => some (.ok o, ρ.set i none)
  | _ => none
def mHas (i : Nat) : M Unit := fun ρ => match ρ[i]? with
  | some (some _) => some (.ok (), ρ)
  | _ => none
def mBor (i : Nat) : M D := fun ρ => match ρ[i]? with
  | some (some o) => match o.flat with
    | some x => some (.ok x, ρ)
    | none => none
  | _ => none
/-- names forgotten -/
def wipeE (ρ : En) : List Nat → En
  | [] => ρ
  | i :: is => (wipeE ρ is).set i none
def mWipe (is : List Nat) : M Unit := fun ρ => some (.ok (), wipeE ρ is)
def mPut (i : Nat) (o : OV) : M Unit := fun ρ => if i < ρ.length then some (.ok (), ρ.set i (some o)) else none

/-! ### operands -/
/-- a value, a test, or a name that is only looked at -/
structure EV where
  val : M OV
  tst : M Bool
  bor : Option Nat
def pv (m : M OV) : EV := ⟨m, M.bind (M.fz m) vTru, none⟩
def ev1 (a : EV) (f : D → M OV) : M OV := match a.bor with
  | some i => M.bind (mBor i) f
  | none => M.bind (M.fz a.val) f
def ev2 (a b : EV) (f : D → D → M OV) : M OV := match a.bor, b.bor with
  | some i, some j => M.bind (mBor i) fun x => M.bind (mBor j) fun y => f x y
  | some i, none => M.bind (mHas i) fun _ => M.bind (M.fz b.val) fun y => M.bind (mBor i) fun x => f x y
  | none, some j => M.bind (M.fz a.val) fun x => M.bind (mBor j) fun y => f x y
  | none, none => M.bind (M.fz a.val) fun x => M.bind (M.fz b.val) fun y => f x y
def ev2T (a b : EV) (f : D → D → M Bool) : M Bool := match a.bor, b.bor with
  | some i, some j => M.bind (mBor i) fun x => M.bind (mBor j) fun y => f x y
  | some i, none => M.bind (mHas i) fun _ => M.bind (M.fz b.val) fun y => M.bind (mBor i) fun x => f x y
  | none, some j => M.bind (M.fz a.val) fun x => M.bind (mBor j) fun y => f x y
  | none, none => M.bind (M.fz a.val) fun x => M.bind (M.fz b.val) fun y => f x y
def mB (m : M Bool) : M OV := M.bind m fun b => M.ret (.d (.bl b))
def seqD : List EV → M (List D)
  | [] => M.ret []
  | a :: r => match a.bor with
    | some _ => M.stuck
    | none => M.bind (M.fz a.val) fun x => M.bind (seqD r) fun xs => M.ret (x :: xs)

/-! ### the forms -/
inductive BOp where
  | add | sub | mul | fdiv | mod | pow
inductive Tg where
  | v (i : Nat) | u (l : List Tg)
inductive SrcK where
  | seq | rng | zip | enm
inductive IE where
  | nop | cst (x : D) | var (i : Nat) | mov (i : Nat) | bor (i : Nat) | glb (n : Nat)
  | bin (o : BOp) (a b : IE) | neg (a : IE) | cmp (o : COp) (a b : IE) | chn (o p : COp) (a b c : IE)
  | and (es : List IE) | or (es : List IE) | not (a : IE) | ite (t a b : IE)
  | tup (es : List IE) | lst (es : List IE) | idx (a i : IE) | slc (a lo hi : IE)
  | blt (b : Blt) (a : IE) | bl2 (b : Bl2) (x y : IE) | isi (a : IE) (ts : List Ty)
  | cal (f : Nat) (es : List IE) (dfl : List D) | cio (f i : Nat) (es : List IE) (dfl : List D) | cbo (f : Nat) (es : List IE) (dfl : List D)
  | cpr (k : SrcK) (src : List IE) (own : List Nat) (tg : Tg) (elt cond : IE)
def vBin : BOp → D → D → M OV
  | .add => vAdd
  | .sub => vSub
  | .mul => vMul
  | .fdiv => vFdiv
  | .mod => vMod
  | .pow => vPow
/-- a def's number, an owned argument (the first one), the others -/
abbrev GF := Nat → Option OV → List D → Option (Res OV × Option OV)

/-! ### and, or -/
def andV : List EV → M OV
  | [] => M.stuck
  | [a] => match a.bor with
    | some _ => M.stuck
    | none => a.val
  | a :: r => match a.bor with
    | some _ => M.stuck
    | none => M.bind (M.fz a.val) fun x => M.bind (vTru x) fun k => if k then andV r else M.ret (.d x)
def orV : List EV → M OV
  | [] => M.stuck
  | [a] => match a.bor with
    | some _ => M.stuck
    | none => a.val
  | a :: r => match a.bor with
    | some _ => M.stuck
    | none => M.bind (M.fz a.val) fun x => M.bind (vTru x) fun k => if k then M.ret (.d x) else orV r
def andT : List EV → M Bool
  | [] => M.stuck
  | [a] => a.tst
  | a :: r => M.bind a.tst fun k => if k then andT r else M.ret false
def orT : List EV → M Bool
  | [] => M.stuck
  | [a] => a.tst
  | a :: r => M.bind a.tst fun k => if k then M.ret true else orT r

/-! ### targets -/
mutual
def putTg : Tg → D → M Unit
  | .v i, x => mPut i (.d x)
  | .u ts, .tup xs => putTgs ts xs
  | .u _, _ => M.stuck
def putTgs : List Tg → List D → M Unit
  | [], [] => M.ret ()
  | t :: ts, x :: xs => M.bind (putTg t x) fun _ => putTgs ts xs
  | _, _ => M.stuck
end

/-! ### what is walked -/
def D.signs (z : Str) : List D := z.cps.toList.map fun c => .str ⟨#[c]⟩
def D.items : D → Option (List D)
  | .lst xs => some xs
  | .tup xs => some xs
  | .rol xs => some xs
  | .str z => some (D.signs z)
  | _ => none
def mOpt {α : Type} : Option α → M α
  | some a => M.ret a
  | none => M.stuck
def rangeD (lo : Int) (n : Nat) : List D := (List.range n).map fun (k : Nat) => D.int (lo + (k : Int))
def inR (i : Int) : Bool := decide (-(2 ^ 62) ≤ i) && decide (i < 2 ^ 62)
def vRng1 : D → M (List D)
  | .int n => if inR n && decide (n.toNat ≤ sizeLine) then M.ret (rangeD 0 n.toNat) else M.stuck
  | _ => M.stuck
def vRng2 : D → D → M (List D)
  | .int lo, .int hi => if inR lo && inR hi && decide ((hi - lo).toNat ≤ sizeLine) then M.ret (rangeD lo (hi - lo).toNat) else M.stuck
  | _, _ => M.stuck
def vZip : D → D → M (List D)
  | .lst xs, .lst ys => M.ret ((xs.zip ys).map fun p => .tup [p.1, p.2])
  | .tup xs, .tup ys => M.ret ((xs.zip ys).map fun p => .tup [p.1, p.2])
  | _, _ => M.stuck
def enumD : Nat → List D → List D
  | _, [] => []
  | k, x :: r => .tup [.int k, x] :: enumD (k + 1) r
def vEnm : D → M (List D)
  | .lst xs => M.ret (enumD 0 xs)
  | _ => M.stuck
/-- the items of a source; the name that is to be left alone while they are walked -/
def srcM : SrcK → List EV → M (List D) × Option Nat
  | .seq, [a] => (match a.bor with
    | some i => M.bind (mBor i) fun x => mOpt x.items
    | none => M.bind (M.fz a.val) fun x => mOpt x.items, a.bor)
  | .rng, [a] => (match a.bor with
    | some _ => M.stuck
    | none => M.bind (M.fz a.val) vRng1, none)
  | .rng, [a, b] => (match a.bor, b.bor with
    | none, none => M.bind (M.fz a.val) fun x => M.bind (M.fz b.val) fun y => vRng2 x y
    | _, _ => M.stuck, none)
  | .zip, [a, b] => (match a.bor, b.bor with
    | none, none => M.bind (M.fz a.val) fun x => M.bind (M.fz b.val) fun y => vZip x y
    | _, _ => M.stuck, none)
  | .enm, [a] => (match a.bor with
    | some _ => M.stuck
    | none => M.bind (M.fz a.val) vEnm, none)
  | _, _ => (M.stuck, none)
/-- one turn of a comprehension: an item, or none -/
def cprTurn (own : List Nat) (tg : Tg) (elt : M OV) (cond : M Bool) (x : D) : M (Option D) :=
  M.bind (putTg tg x) fun _ => M.bind cond fun b => if b then M.bind (M.fz elt) fun y => M.bind (mWipe own) fun _ => M.ret (some y) else M.bind (mWipe own) fun _ => M.ret none
def cprLoop (turn : D → M (Option D)) : List D → M (List D)
  | [] => M.ret []
  | x :: xs => M.bind (turn x) fun o => M.bind (cprLoop turn xs) fun ys => M.ret (match o with
    | some y => y :: ys
    | none => ys)
/-- the values of names put back -/
def backE (ρ ρ0 : En) : List Nat → En
  | [] => ρ
  | i :: is => (backE ρ ρ0 is).set i (match ρ0[i]? with
    | some o => o
    | none => none)
def onlyD (ρ : En) (is : List Nat) : Bool := is.all fun i => match ρ[i]? with
  | some none => true
  | some (some (.d _)) => true
  | _ => false
def hideL : Option Nat → List Nat
  | some i => [i]
  | none => []
def cprM (src : M (List D)) (hid : Option Nat) (own : List Nat) (tg : Tg) (elt : M OV) (cond : M Bool) : M OV :=
  M.bind src fun items => fun ρ =>
    if onlyD ρ own && decide (items.length ≤ sizeLine) && (hideL hid).all (fun i => !own.contains i) then
      match cprLoop (cprTurn own tg elt cond) items (wipeE ρ (own ++ hideL hid)) with
      | some (.ok ys, ρ') => some (.ok (.lst (ys.map .d)), backE ρ' ρ (own ++ hideL hid))
      | _ => none
    else none

/-! ### calls -/
/-- a def that changes nothing -/
def callP (G : GF) (f : Nat) (xs : List D) : M OV := fun ρ => match G f none xs with
  | some (r, none) => some (r, ρ)
  | _ => none
/-- a def that may change its first argument -/
def callIO (G : GF) (f i : Nat) (xs : List D) : M OV := fun ρ => match ρ[i]? with
  | some (some (.d _)) => none
  | some (some o) => match G f (some o) xs with
    | some (r, some o') => some (r, ρ.set i (some o'))
    | _ => none
  | _ => none
/-- numbers, texts, truth values, None: nothing of the heap -/
def D.scal : D → Bool
  | .non => true
  | .bl _ => true
  | .int _ => true
  | .str _ => true
  | _ => false
/-- arguments, some of them only looked at -/
def argB : List EV → M (List (Option Nat × D))
  | [] => M.ret []
  | a :: r => match a.bor with
    | some i => M.bind (mHas i) fun _ => M.bind (argB r) fun xs => M.ret ((some i, .non) :: xs)
    | none => M.bind (M.fz a.val) fun x => M.bind (argB r) fun xs => M.ret ((none, x) :: xs)
def lookB (ρ : En) : List (Option Nat × D) → Option (List D)
  | [] => some []
  | (none, x) :: r => (lookB ρ r).map (x :: ·)
  | (some i, _) :: r => match ρ[i]? with
    | some (some o) => (lookB ρ r).map (o.fz :: ·)
    | _ => none
def callB (G : GF) (f : Nat) (as : List (Option Nat × D)) : M OV := fun ρ => match lookB ρ as with
  | some xs => match G f none xs with
    | some (.ok (.d x), none) => if x.scal then some (.ok (.d x), ρ) else none
    | _ => none
  | none => none

/-! ### what an expression computes; C: the module's constants -/
def endOf : Bool → D → Option (Option Int)
  | true, _ => some none
  | false, .int i => some (some i)
  | false, _ => none
/-- an end of a slice; nop: not written -/
def IE.isNop : IE → Bool
  | .nop => true
  | _ => false
def chnM (o p : COp) (a b c : EV) : M Bool := match a.bor, b.bor, c.bor with
  | none, none, none => M.bind (M.fz a.val) fun x => M.bind (M.fz b.val) fun y => M.bind (vCmp o x y) fun k => if k then M.bind (M.fz c.val) fun z => vCmp p y z else M.ret false
  | _, _, _ => M.stuck
def iteM (t a b : EV) : M OV := match a.bor, b.bor with
  | none, none => M.bind t.tst fun k => if k then a.val else b.val
  | _, _ => M.stuck
def slcM (nl nh : Bool) (a lo hi : EV) : M OV := match lo.bor, hi.bor with
  | none, none => match a.bor with
    | some i => M.bind (mHas i) fun _ => M.bind (M.fz lo.val) fun l => M.bind (mOpt (endOf nl l)) fun lo' => M.bind (M.fz hi.val) fun h => M.bind (mOpt (endOf nh h)) fun hi' => M.bind (mBor i) fun x => vSlc x lo' hi'
    | none => M.bind (M.fz a.val) fun x => M.bind (M.fz lo.val) fun l => M.bind (mOpt (endOf nl l)) fun lo' => M.bind (M.fz hi.val) fun h => M.bind (mOpt (endOf nh h)) fun hi' => vSlc x lo' hi'
  | _, _ => M.stuck
def vIsi (ts : List Ty) (x : D) : M OV := match x.isTys ts with
  | some b => M.ret (.d (.bl b))
  | none => M.stuck
def vTup (xs : List D) : M OV := if xs.length ≤ sizeLine then M.ret (.d (.tup xs)) else M.stuck
def vLst (xs : List D) : M OV := if xs.length ≤ sizeLine then M.ret (.lst (xs.map .d)) else M.stuck
def cprE (src : M (List D) × Option Nat) (own : List Nat) (tg : Tg) (elt : EV) (cond : M Bool) : M OV := match elt.bor with
  | none => cprM src.1 src.2 own tg elt.val cond
  | some _ => M.stuck
mutual
def ev (G : GF) (C : Nat → Option D) : IE → EV
  | .nop => pv (M.ret (.d .non))
  | .cst x => pv (M.ret (.d x))
  | .var i => pv (mVar i)
  | .mov i => pv (mMov i)
  | .bor i => ⟨M.stuck, M.bind (mBor i) vTru, some i⟩
  | .glb n => pv (match C n with
    | some x => M.ret (.d x)
    | none => M.stuck)
  | .bin o a b => pv (ev2 (ev G C a) (ev G C b) (vBin o))
  | .neg a => pv (ev1 (ev G C a) vNeg)
  | .cmp o a b => ⟨mB (ev2T (ev G C a) (ev G C b) (vCmp o)), ev2T (ev G C a) (ev G C b) (vCmp o), none⟩
  | .chn o p a b c => ⟨mB (chnM o p (ev G C a) (ev G C b) (ev G C c)), chnM o p (ev G C a) (ev G C b) (ev G C c), none⟩
  | .and es => ⟨andV (evs G C es), andT (evs G C es), none⟩
  | .or es => ⟨orV (evs G C es), orT (evs G C es), none⟩
  | .not a => ⟨ev1 (ev G C a) fun x => mB (mNot (vTru x)), mNot (ev G C a).tst, none⟩
  | .ite t a b => ⟨iteM (ev G C t) (ev G C a) (ev G C b), M.bind (ev G C t).tst fun k => if k then (ev G C a).tst else (ev G C b).tst, none⟩
  | .tup es => pv (M.bind (seqD (evs G C es)) vTup)
  | .lst es => pv (M.bind (seqD (evs G C es)) vLst)
  | .idx a i => pv (ev2 (ev G C a) (ev G C i) vIdx)
  | .slc a lo hi => pv (slcM lo.isNop hi.isNop (ev G C a) (ev G C lo) (ev G C hi))
  | .blt b a => pv (ev1 (ev G C a) (vBlt b))
  | .bl2 b x y => pv (ev2 (ev G C x) (ev G C y) (vBl2 b))
  | .isi a ts => pv (ev1 (ev G C a) (vIsi ts))
  | .cal f es dfl => pv (M.bind (seqD (evs G C es)) fun xs => callP G f (xs ++ dfl))
  | .cio f i es dfl => pv (M.bind (mHas i) fun _ => M.bind (seqD (evs G C es)) fun xs => callIO G f i (xs ++ dfl))
  | .cbo f es dfl => pv (M.bind (argB (evs G C es)) fun as => callB G f (as ++ dfl.map fun x => (none, x)))
  | .cpr k src own tg elt cond => pv (cprE (srcM k (evs G C src)) own tg (ev G C elt) (if cond.isNop then M.ret true else (ev G C cond).tst))
def evs (G : GF) (C : Nat → Option D) : List IE → List EV
  | [] => []
  | e :: es => ev G C e :: evs G C es
end
end IR
end
section
set_option Elab.async false
set_option linter.all false
set_option maxRecDepth 100000
set_option maxHeartbeats 2000000
/-! ISnd1: from what is computed to the rules' readings. -/
namespace IR
open PySem PySem.Spec L2

section
variable {X : Cx} {T : Tbl} {W : XK} {σ : L2.St} {H : Hp} {vs : List V} {xs : List D}
/-! ### names -/
theorem nodup_app_nil {l : List Addr} (h : l.Nodup) : ([] ++ l).Nodup := by simpa using h
/-- a name's value left out -/
theorem Ok.hide {F : Hp} {ρ : En} {fps : List (List Addr)} {i : Nat} (k : Ok T F ρ fps σ H) : Ok T F (ρ.set i none) (fps.set i []) σ H := by
  refine ⟨k.sub, by simp [k.ls], by simp [k.lf], fun j u e => ?_, flat_set_nodup k.nd List.nodup_nil (fun a ha => by simp at ha), fun a ha => ?_, fun a ha => ?_⟩
  · by_cases hj : i = j
    · subst hj
      by_cases hl : i < ρ.length
      · rw [List.getElem?_set_self hl] at e; cases e
      · rw [List.getElem?_eq_none (by simpa using hl)] at e; cases e
    · rw [List.getElem?_set_ne hj] at e
      obtain ⟨w, g, e1, e2, r⟩ := k.slot j u e
      exact ⟨w, g, e1, by rw [List.getElem?_set_ne hj]; exact e2, r⟩
  · rcases flat_set_sub ha with z | z
    · simp at z
    · exact k.fr a z
  · rcases flat_set_sub ha with z | z
    · simp at z
    · exact k.live a z
theorem flat_hide_sub {fps : List (List Addr)} {i : Nat} {a : Addr} (h : a ∈ (fps.set i []).flatten) : a ∈ fps.flatten := by
  rcases flat_set_sub h with z | z
  · simp at z
  · exact z
theorem flat_nodup : ∀ {fps : List (List Addr)} {i : Nat} {fp : List Addr}, fps.flatten.Nodup → fps[i]? = some fp → fp.Nodup
  | [], _, _, _, e => by simp at e
  | g :: r, 0, fp, h, e => by
    rw [List.flatten_cons, List.nodup_append] at h
    simp at e
    subst e
    exact h.1
  | g :: r, i + 1, fp, h, e => by
    rw [List.flatten_cons, List.nodup_append] at h
    exact flat_nodup h.2.1 (i := i) (by simpa using e)
theorem flat_hide_apart {fps : List (List Addr)} {i : Nat} {fp : List Addr} (nd : fps.flatten.Nodup) (e : fps[i]? = some fp) : (fp ++ (fps.set i []).flatten).Nodup := by
  have hi : i < fps.length := (List.getElem?_eq_some_iff.mp e).1
  rw [List.nodup_append]
  refine ⟨?_, flat_set_nodup nd List.nodup_nil (fun a ha => by simp at ha), fun a ha b hb q => ?_⟩
  · exact flat_nodup nd e
  · subst q
    obtain ⟨g, hg, hag⟩ := List.mem_flatten.mp hb
    obtain ⟨j, hj⟩ := List.getElem?_of_mem hg
    by_cases hji : i = j
    · subst hji
      rw [List.getElem?_set_self hi] at hj
      cases hj
      simp at hag
    · rw [List.getElem?_set_ne hji] at hj
      exact flat_apart nd e hj hji ha hag
theorem mVar_rd {i : Nat} {Q : VK} (h : tE T W (mVar i) σ H Q) : tVar i σ H Q := by
  obtain ⟨F, ρ, fps, r, ok, _, e, p⟩ := h
  unfold mVar at e
  cases hi : ρ[i]? with
  | none => rw [hi] at e; cases e
  | some oo =>
    cases oo with
    | none => rw [hi] at e; cases e
    | some o =>
      rw [hi] at e
      obtain rfl := Option.some.inj e
      obtain ⟨v, fp, e1, e2, ro⟩ := ok.slot i o hi
      refine ⟨v, e1, ?_⟩
      have hl : i < ρ.length := (List.getElem?_eq_some_iff.mp hi).1
      have fr : ∀ a ∈ fp, F a = none := fun a ha => ok.fr a (mem_flat e2 ha)
      have s1 : Same F (addF F H fp) := addF_sub fr
      have rd : RD T (addF F H fp) v o.fz := ro.fz s1 fun a ha => addF_at ha
      have ok1 : Ok T (addF F H fp) (ρ.set i (some (.d o.fz))) (fps.set i []) σ H := ok.turn hl s1 (addF_le ok.sub) ⟨v, e1, .d rd⟩ (fun j g hj hg a ha => ⟨rfl, by
        rw [addF_ne fun z => flat_apart ok.nd e2 hg (Ne.symm hj) z ha]
        exact ok.fr a (mem_flat hg ha)⟩) List.nodup_nil (fun a ha => by simp at ha) (fun a ha => by simp at ha)
      refine p v [] _ _ H ok1 (.d rd) (nodup_app_nil ok1.nd) (by simp) ?_
      refine ⟨s1, fun b u q _ => q, fun b hb => .inl (flat_hide_sub (by simpa using hb)), fun b hb => ?_, fun b q => q⟩
      by_cases hm : b ∈ fp
      · exact .inr (.inl (mem_flat e2 hm))
      · rw [addF_ne hm] at hb; exact .inl hb
theorem mMov_rd {i : Nat} {Q : VK} (h : tE T W (mMov i) σ H Q) : tVar i σ H Q := by
  obtain ⟨F, ρ, fps, r, ok, _, e, p⟩ := h
  unfold mMov at e
  cases hi : ρ[i]? with
  | none => rw [hi] at e; cases e
  | some oo =>
    cases oo with
    | none => rw [hi] at e; cases e
    | some o =>
      rw [hi] at e
      obtain rfl := Option.some.inj e
      obtain ⟨v, fp, e1, e2, ro⟩ := ok.slot i o hi
      refine ⟨v, e1, ?_⟩
      refine p v fp F _ H ok.hide ro (flat_hide_apart ok.nd e2) (fun a ha => ok.fr a (mem_flat e2 ha)) ?_
      refine ⟨Same.refl _, fun b u q _ => q, fun b hb => .inl ?_, fun b hb => .inl hb, fun b q => q⟩
      rcases List.mem_append.mp hb with z | z
      · exact mem_flat e2 z
      · exact flat_hide_sub z
theorem ROs.ds {F : Hp} : ∀ {vs : List V} {os : List OV} {fp : List Addr} {xs : List D}, ROs T F H vs os fp → OV.ds os = some xs → RDs T F vs xs
  | _, _, _, _, .nil, e => by cases e; exact .nil
  | _, _, _, xs, .cons (o := o) (os := os) q r, e => by
    cases o <;> simp only [OV.ds, reduceCtorEq] at e
    cases h : OV.ds os with
    | none => rw [h] at e; cases e
    | some ys =>
      rw [h] at e
      cases e
      cases q with
      | d q => exact .cons q (ROs.ds r h)
theorem RO.flat {F : Hp} {v : V} {o : OV} {fp : List Addr} {x : D} (r : RO T F H v o fp) (e : o.flat = some x) : RB T F H v x := by
  cases r with
  | d q => cases e; exact .fro q
  | lst q r =>
    rename_i os _
    simp only [OV.flat] at e
    cases h : OV.ds os with
    | none => rw [h] at e; cases e
    | some ys =>
      rw [h] at e
      cases e
      exact .lst q (r.ds h)
  | dK q r => cases e; exact .dK q r
  | dT q r => cases e; exact .dT q r
  | obj c q l r =>
    rename_i os _
    simp only [OV.flat] at e
    cases h : OV.ds os with
    | none => rw [h] at e; cases e
    | some ys =>
      rw [h] at e
      cases e
      exact .obj c q l (r.ds h)
theorem mBor_cases {i : Nat} {α : Type} {k : D → M α} {ρ : En} {r : Res α × En} (h : M.bind (mBor i) k ρ = some r) : ∃ o x, ρ[i]? = some (some o) ∧ o.flat = some x ∧ k x ρ = some r := by
  rcases bind_cases h with ⟨x, ρ1, e1, e2⟩ | ⟨x, ρ1, e1, rfl⟩
  · unfold mBor at e1
    cases hi : ρ[i]? with
    | none => rw [hi] at e1; cases e1
    | some oo =>
      cases oo with
      | none => rw [hi] at e1; cases e1
      | some o =>
        rw [hi] at e1
        cases hf : o.flat with
        | none => simp [hf] at e1
        | some y =>
          simp [hf] at e1
          obtain ⟨rfl, rfl⟩ := e1
          exact ⟨o, y, rfl, hf, e2⟩
  · unfold mBor at e1
    cases hi : ρ[i]? with
    | none => rw [hi] at e1; cases e1
    | some oo =>
      cases oo with
      | none => rw [hi] at e1; cases e1
      | some o =>
        rw [hi] at e1
        cases hf : o.flat with
        | none => simp [hf] at e1
        | some y => simp [hf] at e1
theorem bor_rd {i : Nat} {k : D → M OV} {Q : VK} (h : tR T W vs xs (M.bind (mBor i) k) σ H Q) : ∃ v x, σ[i]? = some (some v) ∧ tR T W (v :: vs) (x :: xs) (k x) σ H Q := by
  obtain ⟨F, ρ, fps, r, ok, rv, e, p⟩ := h
  obtain ⟨o, x, e1, e2, e3⟩ := mBor_cases e
  obtain ⟨v, fp, h1, h2, ro⟩ := ok.slot i o e1
  exact ⟨v, x, h1, F, ρ, fps, r, ok, .cons (ro.flat e2) rv, e3, p⟩
theorem bor_rdT {i : Nat} {k : D → M Bool} {Q : Bool → Hp → Prop} (h : tRT T W vs xs (M.bind (mBor i) k) σ H Q) : ∃ v x, σ[i]? = some (some v) ∧ tRT T W (v :: vs) (x :: xs) (k x) σ H Q := by
  obtain ⟨F, ρ, fps, r, ok, rv, e, p⟩ := h
  obtain ⟨o, x, e1, e2, e3⟩ := mBor_cases e
  obtain ⟨v, fp, h1, h2, ro⟩ := ok.slot i o e1
  exact ⟨v, x, h1, F, ρ, fps, r, ok, .cons (ro.flat e2) rv, e3, p⟩
theorem mHas_cases {i : Nat} {α : Type} {k : Unit → M α} {ρ : En} {r : Res α × En} (h : M.bind (mHas i) k ρ = some r) : (∃ o, ρ[i]? = some (some o)) ∧ k () ρ = some r := by
  rcases bind_cases h with ⟨x, ρ1, e1, e2⟩ | ⟨x, ρ1, e1, rfl⟩
  · unfold mHas at e1
    cases hi : ρ[i]? with
    | none => rw [hi] at e1; cases e1
    | some oo =>
      cases oo with
      | none => rw [hi] at e1; cases e1
      | some o =>
        rw [hi] at e1
        obtain ⟨_, q⟩ := Prod.mk.inj (Option.some.inj e1)
        subst q
        exact ⟨⟨o, rfl⟩, e2⟩
  · unfold mHas at e1
    cases hi : ρ[i]? with
    | none => rw [hi] at e1; cases e1
    | some oo => cases oo <;> rw [hi] at e1 <;> cases e1
theorem has_rd {i : Nat} {k : Unit → M OV} {Q : VK} (h : tX T W vs xs (M.bind (mHas i) k) σ H Q) : (∃ v, σ[i]? = some (some v)) ∧ tX T W vs xs (k ()) σ H Q := by
  obtain ⟨F, ρ, fps, r, ok, rv, e, p⟩ := h
  obtain ⟨⟨o, e1⟩, e2⟩ := mHas_cases e
  obtain ⟨v, fp, h1, h2, ro⟩ := ok.slot i o e1
  exact ⟨⟨v, h1⟩, F, ρ, fps, r, ok, rv, e2, p⟩
theorem has_rdT {i : Nat} {k : Unit → M Bool} {Q : Bool → Hp → Prop} (h : tT T W vs xs (M.bind (mHas i) k) σ H Q) : (∃ v, σ[i]? = some (some v)) ∧ tT T W vs xs (k ()) σ H Q := by
  obtain ⟨F, ρ, fps, r, ok, rv, e, p⟩ := h
  obtain ⟨⟨o, e1⟩, e2⟩ := mHas_cases e
  obtain ⟨v, fp, h1, h2, ro⟩ := ok.slot i o e1
  exact ⟨⟨v, h1⟩, F, ρ, fps, r, ok, rv, e2, p⟩

/-! ### operands -/
/-- an operand's reading -/
def rdV (T : Tbl) (W : XK) (a : EV) : TE := match a.bor with
  | some i => tVar i
  | none => tE T W a.val
theorem tR_swap {v w : V} {x y : D} {m : M OV} {Q : VK} (h : tR T W [w, v] [y, x] m σ H Q) : tR T W [v, w] [x, y] m σ H Q := by
  obtain ⟨F, ρ, fps, r, ok, rv, e, p⟩ := h
  exact ⟨F, ρ, fps, r, ok, rv.swap, e, p⟩
theorem ev1_rd {a : EV} {f : D → M OV} {r : V → Hp → VK → Prop} {Q : VK} (hr : ∀ v x σ H Q, tR T W [v] [x] (f x) σ H Q → r v H Q) (h : tE T W (ev1 a f) σ H Q) : rdV T W a σ H fun v H1 => r v H1 Q := by
  unfold ev1 at h
  unfold rdV
  cases hb : a.bor with
  | none =>
    rw [hb] at h
    exact (tX_bind h).mono fun v H1 ⟨x, q⟩ => hr v x σ H1 Q q.toR
  | some i =>
    rw [hb] at h
    obtain ⟨v, x, e, q⟩ := bor_rd (tX.toR h)
    exact ⟨v, e, hr v x σ H Q q⟩
theorem ev2_rd {a b : EV} {f : D → D → M OV} {r : R2} {Q : VK} (hr : BinOk T W r f) (h : tE T W (ev2 a b f) σ H Q) : rdV T W a σ H fun v H1 => rdV T W b σ H1 fun w H2 => r v w H2 Q := by
  unfold ev2 at h
  unfold rdV
  cases ha : a.bor with
  | none =>
    cases hb : b.bor with
    | none =>
      rw [ha, hb] at h
      exact (tX_bind h).mono fun v H1 ⟨x, q⟩ => (tX_bind q).mono fun w H2 ⟨y, q2⟩ => hr v w x y σ H2 Q q2.toR
    | some j =>
      rw [ha, hb] at h
      refine (tX_bind h).mono fun v H1 ⟨x, q⟩ => ?_
      obtain ⟨w, y, e, q2⟩ := bor_rd q.toR
      exact ⟨w, e, hr v w x y σ H1 Q q2⟩
  | some i =>
    cases hb : b.bor with
    | none =>
      rw [ha, hb] at h
      obtain ⟨⟨v, e⟩, q⟩ := has_rd h
      refine ⟨v, e, (tX_bind q).mono fun w H2 ⟨y, q2⟩ => ?_⟩
      obtain ⟨v', x, e', q3⟩ := bor_rd q2.toR
      rw [e] at e'
      cases e'
      exact hr v w x y σ H2 Q (tR_swap q3)
    | some j =>
      rw [ha, hb] at h
      obtain ⟨v, x, e, q⟩ := bor_rd (tX.toR h)
      obtain ⟨w, y, e2, q2⟩ := bor_rd q
      exact ⟨v, e, w, e2, hr v w x y σ H Q q2⟩
theorem ev2T_rd {a b : EV} {f : D → D → M Bool} {r : R2} {Q : Bool → Hp → Prop} (hr : CmpOk T W r f) (h : tT T W [] [] (ev2T a b f) σ H Q) : rdV T W a σ H fun v H1 => rdV T W b σ H1 fun w H2 => rTest r v w H2 Q := by
  unfold ev2T at h
  unfold rdV
  cases ha : a.bor with
  | none =>
    cases hb : b.bor with
    | none =>
      rw [ha, hb] at h
      exact (tXT_bind h).mono fun v H1 ⟨x, q⟩ => (tXT_bind q).mono fun w H2 ⟨y, q2⟩ => hr v w x y σ H2 Q q2.toR
    | some j =>
      rw [ha, hb] at h
      refine (tXT_bind h).mono fun v H1 ⟨x, q⟩ => ?_
      obtain ⟨w, y, e, q2⟩ := bor_rdT q.toR
      exact ⟨w, e, hr v w x y σ H1 Q q2⟩
  | some i =>
    cases hb : b.bor with
    | none =>
      rw [ha, hb] at h
      obtain ⟨⟨v, e⟩, q⟩ := has_rdT h
      refine ⟨v, e, (tXT_bind q).mono fun w H2 ⟨y, q2⟩ => ?_⟩
      obtain ⟨v', x, e', q3⟩ := bor_rdT q2.toR
      rw [e] at e'
      cases e'
      exact hr v w x y σ H2 Q (tRT_swap q3)
    | some j =>
      rw [ha, hb] at h
      obtain ⟨v, x, e, q⟩ := bor_rdT (tT.toR h)
      obtain ⟨w, y, e2, q2⟩ := bor_rdT q
      exact ⟨v, e, w, e2, hr v w x y σ H Q q2⟩
/-- a truth value as a value -/
theorem mB_rd {m : M Bool} {Q : VK} (h : tX T W vs xs (mB m) σ H Q) : tT T W vs xs m σ H fun b H' => Q (.bl b) H' := by
  refine (tT_bind h).mono fun b H1 q => ?_
  obtain ⟨F, rv, s, k⟩ := tX_ret q
  exact k _ (.bl _)
theorem rCmp_mono {K : PySem.W.Frag} {v w : V} {Q Q' : VK} (i : ∀ z H, Q z H → Q' z H) : ∀ c : COp, rCmp K c v w H Q → rCmp K c v w H Q'
  | .eq, ⟨d, e, a, b, c, f, q⟩ => ⟨d, e, a, b, c, f, i _ _ q⟩
  | .ne, ⟨d, e, a, b, c, f, q⟩ => ⟨d, e, a, b, c, f, i _ _ q⟩
  | .lt, .inl ⟨a, b, c, d, q⟩ => .inl ⟨a, b, c, d, i _ _ q⟩
  | .lt, .inr ⟨a, b, c, d, q⟩ => .inr ⟨a, b, c, d, i _ _ q⟩
  | .le, .inl ⟨a, b, c, d, q⟩ => .inl ⟨a, b, c, d, i _ _ q⟩
  | .le, .inr ⟨a, b, c, d, q⟩ => .inr ⟨a, b, c, d, i _ _ q⟩
  | .gt, .inl ⟨a, b, c, d, q⟩ => .inl ⟨a, b, c, d, i _ _ q⟩
  | .gt, .inr ⟨a, b, c, d, q⟩ => .inr ⟨a, b, c, d, i _ _ q⟩
  | .ge, .inl ⟨a, b, c, d, q⟩ => .inl ⟨a, b, c, d, i _ _ q⟩
  | .ge, .inr ⟨a, b, c, d, q⟩ => .inr ⟨a, b, c, d, i _ _ q⟩
  | .isin, .inl ⟨d, e, a, b, c, f, q⟩ => .inl ⟨d, e, a, b, c, f, i _ _ q⟩
  | .isin, .inr ⟨d, e, a, b, q⟩ => .inr ⟨d, e, a, b, i _ _ q⟩
  | .notin, .inl ⟨d, e, a, b, c, f, q⟩ => .inl ⟨d, e, a, b, c, f, i _ _ q⟩
  | .notin, .inr ⟨d, e, a, b, q⟩ => .inr ⟨d, e, a, b, i _ _ q⟩
  | .isN, ⟨a, q⟩ => ⟨a, i _ _ q⟩
  | .notN, ⟨a, q⟩ => ⟨a, i _ _ q⟩
theorem rTest_val {K : PySem.W.Frag} {v w : V} {Q : VK} {c : COp} (h : rTest (rCmp K c) v w H fun b H' => Q (.bl b) H') : rCmp K c v w H Q :=
  rCmp_mono (fun z H ⟨k, e, q⟩ => by rw [e]; exact q) c h
theorem rdV.mono {a : EV} {Q Q' : VK} (h : rdV T W a σ H Q) (i : ∀ v H, Q v H → Q' v H) : rdV T W a σ H Q' := by
  unfold rdV at h ⊢
  cases hb : a.bor with
  | none => rw [hb] at h; exact h.mono i
  | some j =>
    rw [hb] at h
    obtain ⟨v, e, q⟩ := h
    exact ⟨v, e, i _ _ q⟩

/-! ### argument lists -/
theorem seqD_rd : ∀ {as : List EV} {σ : L2.St} {H : Hp} {Q : List V → Hp → Prop} {vs : List V} {xs : List D}, tA T W vs xs (seqD as) σ H Q → match as with
    | [] => Q [] H
    | a :: r => tE T W a.val σ H fun v H1 => ∃ x, tA T W (v :: vs) (x :: xs) (seqD r) σ H1 fun ws H2 => Q (v :: ws) H2
  | [], σ, H, Q, vs, xs, h => by
    obtain ⟨F, ρ, fps, r, ok, rv, e, p⟩ := h
    cases e
    exact p [] F fps H ok .nil Stp.refl
  | a :: r, σ, H, Q, vs, xs, h => by
    obtain ⟨F, ρ, fps, r', ok, rv, e, p⟩ := h
    unfold seqD at e
    cases hb : a.bor with
    | some i => simp only [hb] at e; cases e
    | none =>
      simp only [hb] at e
      rcases bind_cases e with ⟨x, ρ1, e1, e2⟩ | ⟨x, ρ1, e1, rfl⟩
      · rcases bind_cases e1 with ⟨o, ρ2, e3, e4⟩ | ⟨y, ρ2, e3, e4⟩
        · cases e4
          refine ⟨F, ρ, fps, _, ok, .nil, e3, fun v fp F' fps' H' h1 h2 h3 h4 h5 => ?_⟩
          obtain ⟨k1, k2⟩ := h1.freeze h2 h3 h4
          have s := h5.freeze h4
          rcases bind_cases e2 with ⟨ys, ρ3, e5, e6⟩ | ⟨y, ρ3, e5, rfl⟩
          · cases e6
            exact ⟨o.fz, addF F' H' fp, ρ1, fps', _, k1, .cons k2 (rv.mono s.mono), e5, fun ws F2 fps2 H2 g1 g2 g3 => p (v :: ws) F2 fps2 H2 g1 (.cons (k2.mono g3.mono) g2) (s.trans g3)⟩
          · exact ⟨o.fz, addF F' H' fp, ρ1, fps', _, k1, .cons k2 (rv.mono s.mono), e5, p.imp s⟩
        · cases e4
      · rcases bind_cases e1 with ⟨o, ρ2, e3, e4⟩ | ⟨y, ρ2, e3, e4⟩
        · cases e4
        · cases e4
          exact ⟨F, ρ, fps, _, ok, .nil, e3, p⟩
theorem tA.drop {f : M (List D)} {Q : List V → Hp → Prop} (h : tA T W vs xs f σ H Q) : tA T W [] [] f σ H Q := by
  obtain ⟨F, ρ, fps, r, ok, rv, e, p⟩ := h
  exact ⟨F, ρ, fps, r, ok, .nil, e, p⟩
end
end IR
end
section
set_option Elab.async false
set_option linter.all false
set_option maxRecDepth 100000
set_option maxHeartbeats 2000000
/-! ISnd2: calls of defs; what is walked; comprehensions. -/
namespace IR
open PySem PySem.Spec L2

/-! ### what a def promises -/
def PostP (T : Tbl) (F : Hp) (O : List Addr) (H : Hp) (Q : VK) (E : XK) : Res OV → Prop
  | .ok o => ∀ v fp F' H', Same F' H' → RO T F' H' v o fp → fp.Nodup → (∀ a ∈ fp, F' a = none) → Stp F O H F' fp H' → Q v H'
  | .err x => ∀ cls d F' H', Same F' H' → RX T F' H' x cls d → Stp F O H F' [] H' → E cls d H'
def PostIO (T : Tbl) (a : V) (F : Hp) (O : List Addr) (H : Hp) (Q : VK) (E : XK) : Res OV × OV → Prop
  | (.ok o, o') => ∀ v fp fq F' H', Same F' H' → RO T F' H' v o fp → RO T F' H' a o' fq → (fp ++ fq).Nodup → (∀ b ∈ fp ++ fq, F' b = none) → Stp F O H F' (fp ++ fq) H' → Q v H'
  | (.err x, o') => ∀ cls d fq F' H', Same F' H' → RX T F' H' x cls d → RO T F' H' a o' fq → fq.Nodup → (∀ b ∈ fq, F' b = none) → Stp F O H F' fq H' → E cls d H'
def gP (G : GF) (f : Nat) (ds : List D) : Option (Res OV) := match G f none ds with
  | some (r, none) => some r
  | _ => none
def gIO (G : GF) (f : Nat) (o : OV) (ds : List D) : Option (Res OV × OV) := match G f (some o) ds with
  | some (r, some o') => some (r, o')
  | _ => none
def spP (T : Tbl) (n : Nat) (g : List D → Option (Res OV)) : Sp := fun vs H Q E => vs.length = n ∧ ∃ F ds r, Same F H ∧ RDs T F vs ds ∧ g ds = some r ∧ PostP T F [] H Q E r
def spIO (T : Tbl) (n : Nat) (g : OV → List D → Option (Res OV × OV)) : Sp := fun vs H Q E => vs.length = n ∧ ∃ F a ws o fp ds r, vs = a :: ws ∧ Same F H ∧ RO T F H a o fp ∧ fp.Nodup ∧ (∀ b ∈ fp, F b = none) ∧ RDs T F ws ds ∧ g o ds = some r ∧ PostIO T a F fp H Q E r

section
variable {X : Cx} {T : Tbl} {W : XK} {σ : L2.St} {H : Hp} {vs : List V} {xs : List D}
theorem Stp.keepAll {F F' : Hp} {O' : List Addr} {H' : Hp} (s : Stp F [] H F' O' H') : Same H H' := fun b o e => s.keep b o e (by simp)
theorem callP_rd {G : GF} {f n : Nat} {as : List EV} {dfl : List D} {dvs : List V} {Q : VK} (hd : ∀ F, RDs T F dvs dfl) (hn : ∀ ds, as.length = ds.length → (ds ++ dfl).length = n)
    (h : tE T W (M.bind (seqD as) fun xs => callP G f (xs ++ dfl)) σ H Q) : tA T W [] [] (seqD as) σ H fun ws H1 => ws.length = as.length → spP T n (gP G f) (ws ++ dvs) H1 Q W := by
  refine (tA_bind h).mono fun ws H1 ⟨ys, q⟩ hlen => ?_
  obtain ⟨F, ρ, fps, r, ok, rv, e, p⟩ := q
  rw [List.append_nil, List.append_nil] at rv
  unfold callP at e
  cases hg : G f none (ys ++ dfl) with
  | none => rw [hg] at e; cases e
  | some pr =>
    obtain ⟨r', o⟩ := pr
    rw [hg] at e
    cases o with
    | some o => cases e
    | none =>
      cases e
      have rv2 := rv.append (hd F)
      refine ⟨by rw [rv2.length]; exact hn ys (by rw [← hlen, rv.length]), F, ys ++ dfl, r', ok.sub, rv2, by unfold gP; rw [hg], ?_⟩
      have okk : ∀ {F' H' : Hp} {fp : List Addr}, Same F' H' → Stp F [] H1 F' fp H' → Ok T F' ρ fps σ H' := fun {F' H' fp} s st =>
        (ok.kept st.keepAll).grow st.mono s fun a ha => by
          cases z : F' a with
          | none => rfl
          | some u =>
            rcases st.new a (by rw [z]; simp) with w | w | w
            · exact absurd (ok.fr a ha) w
            · simp at w
            · exact absurd w (ok.live a ha)
      cases r' with
      | ok o =>
        intro v fp F' H' s ro nd fr st
        refine p v fp F' fps H' (okk s st) ro ?_ fr ⟨st.mono, fun b u q _ => st.keepAll b u q, fun b hb => ?_, fun b hb => ?_, st.stay⟩
        · rw [List.nodup_append]
          refine ⟨nd, ok.nd, fun a ha b hb z => ?_⟩
          subst z
          rcases st.own a ha with w | w
          · simp at w
          · exact ok.live a hb w
        · rcases List.mem_append.mp hb with z | z
          · rcases st.own b z with w | w
            · simp at w
            · exact .inr w
          · exact .inl z
        · rcases st.new b hb with w | w | w
          · exact .inl w
          · simp at w
          · exact .inr (.inr w)
      | err x =>
        intro cls d F' H' s rx st
        refine p cls d F' fps H' (okk s st) rx ⟨st.mono, fun b u q _ => st.keepAll b u q, fun b hb => .inl hb, fun b hb => ?_, st.stay⟩
        rcases st.new b hb with w | w | w
        · exact .inl w
        · simp at w
        · exact .inr (.inr w)
/-- a call that may change the first argument -/
theorem callIO_rd {G : GF} {f i n : Nat} {as : List EV} {dfl : List D} {dvs : List V} {Q : VK} (hd : ∀ F, RDs T F dvs dfl) (hn : ∀ ds, as.length = ds.length → (ds ++ dfl).length + 1 = n)
    (h : tE T W (M.bind (mHas i) fun _ => M.bind (seqD as) fun xs => callIO G f i (xs ++ dfl)) σ H Q) : tVar i σ H fun v H0 => tA T W [] [] (seqD as) σ H0 fun ws H1 => ws.length = as.length → spIO T n (gIO G f) (v :: (ws ++ dvs)) H1 Q W := by
  obtain ⟨⟨v, ev⟩, h⟩ := has_rd h
  refine ⟨v, ev, (tA_bind h).mono fun ws H1 ⟨ys, q⟩ hlen => ?_⟩
  obtain ⟨F, ρ, fps, r, ok, rv, e, p⟩ := q
  rw [List.append_nil, List.append_nil] at rv
  unfold callIO at e
  have rv2 := rv.append (hd F)
  have key : ∀ o : OV, ρ[i]? = some (some o) → (match G f (some o) (ys ++ dfl) with
      | some (r, some o') => some (r, ρ.set i (some o'))
      | _ => none) = some r → spIO T n (gIO G f) (v :: (ws ++ dvs)) H1 Q W := by
    intro o hi e
    obtain ⟨v', fp, e1, e2, ro⟩ := ok.slot i o hi
    rw [ev] at e1
    cases e1
    have hl : i < ρ.length := (List.getElem?_eq_some_iff.mp hi).1
    cases hg : G f (some o) (ys ++ dfl) with
    | none => rw [hg] at e; cases e
    | some pr =>
      obtain ⟨r', oo⟩ := pr
      rw [hg] at e
      cases oo with
      | none => cases e
      | some o' =>
        cases e
        refine ⟨by rw [List.length_cons, rv2.length]; exact hn ys (by rw [← hlen, rv.length]), F, v, ws ++ dvs, o, fp, ys ++ dfl, (r', o'), rfl, ok.sub, ro, flat_nodup ok.nd e2, fun b hb => ok.fr b (mem_flat e2 hb), rv2, by unfold gIO; rw [hg], ?_⟩
        have notin : ∀ j g, j ≠ i → fps[j]? = some g → ∀ a ∈ g, a ∉ fp := fun j g hj hg a ha => flat_apart ok.nd hg e2 hj ha
        have okk : ∀ {F' H' : Hp} {fq fr : List Addr}, Same F' H' → Stp F fp H1 F' fr H' → RO T F' H' v o' fq → fq.Nodup → (∀ b ∈ fq, F' b = none) → (∀ b ∈ fq, b ∈ fr) → Ok T F' (ρ.set i (some o')) (fps.set i fq) σ H' := fun {F' H' fq fr} s st ro' nd fr' sub => by
          refine ok.turn hl st.mono s ⟨v, ev, ro'⟩ (fun j g hj hg a ha => ?_) nd (fun a ha j g hj hg z => ?_) fr'
          · have hna := notin j g hj hg a ha
            have hla := ok.live a (mem_flat hg ha)
            constructor
            · cases z : H1 a with
              | none => exact absurd z hla
              | some u => exact st.keep a u z hna
            · cases z : F' a with
              | none => rfl
              | some u =>
                rcases st.new a (by rw [z]; simp) with w | w | w
                · exact absurd (ok.fr a (mem_flat hg ha)) w
                · exact absurd w hna
                · exact absurd w hla
          · rcases st.own a (sub a ha) with w | w
            · exact notin j g hj hg a z w
            · exact ok.live a (mem_flat hg z) w
        have step : ∀ {F' H' : Hp} {fo fq : List Addr}, Stp F fp H1 F' (fo ++ fq) H' → Stp F fps.flatten H1 F' (fo ++ (fps.set i fq).flatten) H' := fun {F' H' fo fq} st => by
          refine ⟨st.mono, fun b u q hb => st.keep b u q fun z => hb (mem_flat e2 z), fun b hb => ?_, fun b hb => ?_, st.stay⟩
          · have up : b ∈ fo ++ fq → b ∈ fps.flatten ∨ H1 b = none := fun z => (st.own b z).imp (fun w => mem_flat e2 w) id
            rcases List.mem_append.mp hb with z | z
            · exact up (List.mem_append_left _ z)
            · rcases flat_set_sub z with z | z
              · exact up (List.mem_append_right _ z)
              · exact .inl z
          · rcases st.new b hb with w | w | w
            · exact .inl w
            · exact .inr (.inl (mem_flat e2 w))
            · exact .inr (.inr w)
        cases r' with
        | ok u =>
          intro w fo fq F' H' s ro1 ro2 nd fr st
          rw [List.nodup_append] at nd
          have okk' := okk s st ro2 nd.2.1 (fun b hb => fr b (List.mem_append_right _ hb)) (fun b hb => List.mem_append_right _ hb)
          refine p w fo F' (fps.set i fq) H' okk' ro1 ?_ (fun a ha => fr a (List.mem_append_left _ ha)) (step st)
          rw [List.nodup_append]
          refine ⟨nd.1, okk'.nd, fun a ha b hb z => ?_⟩
          subst z
          obtain ⟨g, hg, hag⟩ := List.mem_flatten.mp hb
          obtain ⟨j, hj⟩ := List.getElem?_of_mem hg
          by_cases hji : i = j
          · subst hji
            rw [List.getElem?_set_self (ok.lf ▸ hl)] at hj
            cases hj
            exact nd.2.2 a ha a hag rfl
          · rw [List.getElem?_set_ne hji] at hj
            rcases st.own a (List.mem_append_left _ ha) with w | w
            · exact notin j g (Ne.symm hji) hj a hag w
            · exact ok.live a (mem_flat hj hag) w
        | err x =>
          intro cls d fq F' H' s rx ro2 nd fr st
          exact p cls d F' (fps.set i fq) H' (okk s st ro2 nd fr (fun b hb => hb)) rx (by simpa using step (fo := []) (by simpa using st))
  cases hi : ρ[i]? with
  | none => rw [hi] at e; cases e
  | some oo =>
    cases oo with
    | none => rw [hi] at e; cases e
    | some o =>
      rw [hi] at e
      cases o with
      | d x => cases e
      | lst os => exact key _ hi e
      | dic kvs => exact key _ hi e
      | obj c os => exact key _ hi e

/-! ### arguments that are only looked at -/
inductive AB (T : Tbl) (F : Hp) (σ : L2.St) : List V → List (Option Nat × D) → Prop
  | nil : AB T F σ [] []
  | d {v : V} {x : D} {vs : List V} {as : List (Option Nat × D)} : RD T F v x → AB T F σ vs as → AB T F σ (v :: vs) ((none, x) :: as)
  | b {v : V} {i : Nat} {x : D} {vs : List V} {as : List (Option Nat × D)} : σ[i]? = some (some v) → AB T F σ vs as → AB T F σ (v :: vs) ((some i, x) :: as)
theorem AB.mono {F F' : Hp} (s : Same F F') : ∀ {vs : List V} {as : List (Option Nat × D)}, AB T F σ vs as → AB T F' σ vs as
  | _, _, .nil => .nil
  | _, _, .d q r => .d (q.mono s) (r.mono s)
  | _, _, .b q r => .b q (r.mono s)
theorem AB.length {F : Hp} : ∀ {vs : List V} {as : List (Option Nat × D)}, AB T F σ vs as → vs.length = as.length
  | _, _, .nil => rfl
  | _, _, .d _ r => by simp [r.length]
  | _, _, .b _ r => by simp [r.length]
theorem AB.app {F : Hp} {ws : List V} {qs : List (Option Nat × D)} (h2 : AB T F σ ws qs) : ∀ {vs : List V} {ps : List (Option Nat × D)}, AB T F σ vs ps → AB T F σ (vs ++ ws) (ps ++ qs)
  | _, _, .nil => h2
  | _, _, .d q r => .d q (AB.app h2 r)
  | _, _, .b q r => .b q (AB.app h2 r)
/-- the arguments' readings, one after another -/
def tArgs (T : Tbl) (W : XK) : List EV → TA
  | [] => tNil
  | a :: r => tCons (rdV T W a) (tArgs T W r)
theorem tArgs_mono : ∀ {as : List EV} {σ : L2.St} {H : Hp} {Q Q' : List V → Hp → Prop}, tArgs T W as σ H Q → (∀ ws H, Q ws H → Q' ws H) → tArgs T W as σ H Q'
  | [], _, _, _, _, h, i => i _ _ h
  | a :: r, _, _, _, _, h, i => rdV.mono h fun v H1 q => tArgs_mono q fun ws H2 => i (v :: ws) H2
/-- .. of a list that is all data -/
theorem seqD_args : ∀ {as : List EV} {σ : L2.St} {H : Hp} {Q : List V → Hp → Prop} {vs : List V} {xs : List D}, tA T W vs xs (seqD as) σ H Q → tArgs T W as σ H Q
  | [], _, _, _, _, _, h => seqD_rd h
  | a :: r, σ, H, Q, vs, xs, h => by
    have hb : a.bor = none := by
      obtain ⟨F, ρ, fps, r', ok, rv, e, p⟩ := h
      unfold seqD at e
      cases hb : a.bor with
      | none => rfl
      | some i => simp only [hb] at e; cases e
    have q := seqD_rd h
    show rdV T W a σ H _
    unfold rdV
    rw [hb]
    exact q.mono fun v H1 ⟨x, q⟩ => seqD_args q
/-- the lists' lengths -/
theorem tArgs_len : ∀ {as : List EV} {σ : L2.St} {H : Hp} {Q : List V → Hp → Prop}, tArgs T W as σ H (fun ws H1 => ws.length = as.length → Q ws H1) → tArgs T W as σ H Q
  | [], _, _, _, h => h rfl
  | a :: r, _, _, _, h => rdV.mono h fun v H1 q => tArgs_len (tArgs_mono q fun ws H2 k e => k (by simp [e]))
/-- arguments some of which are only looked at; pend: those that came before, ahead of them -/
theorem argB_rd : ∀ {as : List EV} {σ : L2.St} {H : Hp} {Q : VK} {vs : List V} {ps : List (Option Nat × D)} {k : List (Option Nat × D) → M OV},
    (∃ F ρ fps r, Ok T F ρ fps σ H ∧ AB T F σ vs ps ∧ M.bind (argB as) k ρ = some r ∧ PostE T W F fps.flatten H σ Q r) →
    tArgs T W as σ H fun ws H1 => ∃ qs F ρ fps r, Ok T F ρ fps σ H1 ∧ AB T F σ (vs ++ ws) (ps ++ qs) ∧ k qs ρ = some r ∧ PostE T W F fps.flatten H1 σ Q r
  | [], σ, H, Q, vs, ps, k, h => by
    obtain ⟨F, ρ, fps, r, ok, ab, e, p⟩ := h
    exact ⟨[], F, ρ, fps, r, ok, by simpa using ab, e, p⟩
  | a :: r, σ, H, Q, vs, ps, k, h => by
    obtain ⟨F, ρ, fps, r', ok, ab, e, p⟩ := h
    show rdV T W a σ H _
    unfold rdV
    cases hb : a.bor with
    | some i =>
      simp only [argB, hb, M.bind_assoc] at e
      obtain ⟨⟨o, eo⟩, e⟩ := mHas_cases e
      obtain ⟨v, fp, ev, _, _⟩ := ok.slot i o eo
      refine ⟨v, ev, ?_⟩
      have ih := argB_rd (as := r) (σ := σ) (H := H) (Q := Q) (vs := vs ++ [v]) (ps := ps ++ [(some i, .non)]) (k := fun xs => k ((some i, .non) :: xs)) ⟨F, ρ, fps, r', ok, AB.app (.b ev .nil) ab, e, p⟩
      exact tArgs_mono ih fun ws H1 ⟨qs, F, ρ, fps, r, h1, h2, h3, h4⟩ => ⟨(some i, .non) :: qs, F, ρ, fps, r, h1, by simpa using h2, h3, h4⟩
    | none =>
      simp only [argB, hb, M.bind_assoc] at e
      rcases bind_cases e with ⟨x, ρ1, e1, e2⟩ | ⟨x, ρ1, e1, rfl⟩
      · rcases bind_cases e1 with ⟨o, ρ2, e3, e4⟩ | ⟨y, ρ2, e3, e4⟩
        · cases e4
          refine ⟨F, ρ, fps, _, ok, .nil, e3, fun v fp F' fps' H' h1 h2 h3 h4 h5 => ?_⟩
          obtain ⟨k1, k2⟩ := h1.freeze h2 h3 h4
          have st := h5.freeze h4
          have ih := argB_rd (as := r) (σ := σ) (H := H') (Q := Q) (vs := vs ++ [v]) (ps := ps ++ [(none, o.fz)]) (k := fun xs => k ((none, o.fz) :: xs)) ⟨_, ρ1, fps', r', k1, AB.app (.d k2 .nil) (ab.mono st.mono), e2, p.imp st⟩
          exact tArgs_mono ih fun ws H1 ⟨qs, F, ρ, fps, r, h1, h2, h3, h4⟩ => ⟨(none, o.fz) :: qs, F, ρ, fps, r, h1, by simpa using h2, h3, h4⟩
        · cases e4
      · rcases bind_cases e1 with ⟨o, ρ2, e3, e4⟩ | ⟨y, ρ2, e3, e4⟩
        · cases e4
        · cases e4
          exact ⟨F, ρ, fps, _, ok, .nil, e3, p⟩
theorem lookB_rd {F : Hp} {ρ : En} {fps : List (List Addr)} (ok : Ok T F ρ fps σ H) : ∀ {ws : List V} {as : List (Option Nat × D)} {ds : List D}, AB T F σ ws as → lookB ρ as = some ds → RDs T (addF F H fps.flatten) ws ds
  | _, _, _, .nil, e => by cases e; exact .nil
  | _, _, _, .d (as := as) q r, e => by
    simp only [lookB] at e
    cases h : lookB ρ as with
    | none => rw [h] at e; cases e
    | some ys =>
      rw [h] at e
      cases e
      exact .cons (q.mono (addF_sub ok.fr)) (lookB_rd ok r h)
  | _, _, _, .b (i := i) (as := as) q r, e => by
    simp only [lookB] at e
    cases hi : ρ[i]? with
    | none => rw [hi] at e; cases e
    | some oo =>
      cases oo with
      | none => rw [hi] at e; cases e
      | some o =>
        rw [hi] at e
        cases h : lookB ρ as with
        | none => simp [h] at e
        | some ys =>
          simp [h] at e
          subst e
          obtain ⟨v, fp, e1, e2, ro⟩ := ok.slot i o hi
          rw [q] at e1
          cases e1
          exact .cons (ro.fz (addF_sub ok.fr) fun a ha => addF_at (mem_flat e2 ha)) (lookB_rd ok r h)
theorem RD.scal {F F' : Hp} {v : V} {x : D} (h : RD T F v x) (s : x.scal = true) : RD T F' v x := by
  cases h <;> simp only [D.scal, Bool.false_eq_true] at s
  · exact .non
  · exact .bl _
  · exact .int _
  · exact .str _
theorem AB.of_ds {F : Hp} : ∀ {vs : List V} {xs : List D}, RDs T F vs xs → AB T F σ vs (xs.map fun x => (none, x))
  | _, _, .nil => .nil
  | _, _, .cons q r => .d q (AB.of_ds r)
theorem callB_rd {G : GF} {f n : Nat} {as : List EV} {dfl : List D} {dvs : List V} {Q : VK} (hd : ∀ F, RDs T F dvs dfl) (hn : ∀ l, as.length = l → l + dfl.length = n)
    (h : tE T W (M.bind (argB as) fun qs => callB G f (qs ++ dfl.map fun x => (none, x))) σ H Q) : tArgs T W as σ H fun ws H1 => spP T n (gP G f) (ws ++ dvs) H1 Q W := by
  obtain ⟨F, ρ, fps, r, ok, _, e, p⟩ := h
  refine tArgs_len (tArgs_mono (argB_rd (vs := []) (ps := []) ⟨F, ρ, fps, r, ok, .nil, e, p⟩) fun ws H1 ⟨qs, F, ρ, fps, r, ok, ab, e, p⟩ hlen => ?_)
  rw [List.nil_append, List.nil_append] at ab
  unfold callB at e
  have abd : AB T F σ (ws ++ dvs) (qs ++ dfl.map fun x => (none, x)) := AB.app (AB.of_ds (hd F)) ab
  cases hl : lookB ρ (qs ++ dfl.map fun x => (none, x)) with
  | none => rw [hl] at e; cases e
  | some ds =>
    rw [hl] at e
    cases hg : G f none ds with
    | none => simp [hg] at e
    | some pr =>
      obtain ⟨r', o⟩ := pr
      simp only [hg] at e
      cases r' with
      | err x => cases e
      | ok u =>
        cases u with
        | lst _ => cases o <;> cases e
        | dic _ => cases o <;> cases e
        | obj _ _ => cases o <;> cases e
        | d x =>
          cases o with
          | some o => cases e
          | none =>
            simp only at e
            split at e
            · rename_i hs
              cases e
              have rv := lookB_rd ok abd hl
              refine ⟨by rw [List.length_append, (hd F).length]; exact hn _ hlen.symm, addF F H1 fps.flatten, ds, .ok (.d x), addF_le ok.sub, rv, by unfold gP; rw [hg], ?_⟩
              intro v fp F' H' s ro nd fr st
              cases ro with
              | d ro => exact p v [] F fps H' (ok.kept st.keepAll) (.d (ro.scal hs)) (by simpa using ok.nd) (by simp) (by simpa using Stp.kept st.keepAll)
            · cases e
end
end IR
end
section
set_option Elab.async false
set_option linter.all false
set_option maxRecDepth 100000
set_option maxHeartbeats 2000000
/-! ISnd3: targets; what is walked; comprehensions. -/
namespace IR
open PySem PySem.Spec L2

/-! ### targets -/
mutual
def Tg.slots : Tg → List Nat
  | .v i => [i]
  | .u ts => Tg.slotss ts
def Tg.slotss : List Tg → List Nat
  | [] => []
  | g :: gs => g.slots ++ Tg.slotss gs
end
mutual
def gTg (K : PySem.W.Frag) : Tg → TG
  | .v i => gName i
  | .u ts => gTup K ts.length (gTgs K ts)
def gTgs (K : PySem.W.Frag) : List Tg → TGs
  | [] => gNil
  | t :: ts => gCons (gTg K t) (gTgs K ts)
end
theorem putTgs_len : ∀ {ts : List Tg} {xs : List D} {ρ : En} {r : Res Unit × En}, putTgs ts xs ρ = some r → (∃ ρ', r = (.ok (), ρ')) → ts.length = xs.length
  | [], [], _, _, _, _ => rfl
  | [], x :: xs, _, _, h, _ => by simp only [putTgs] at h; cases h
  | t :: ts, [], _, _, h, _ => by simp only [putTgs] at h; cases h
  | t :: ts, x :: xs, ρ, r, h, ⟨ρ', hr⟩ => by
    simp only [putTgs] at h
    rcases bind_cases h with ⟨_, ρ1, _, e2⟩ | ⟨y, ρ1, _, e2⟩
    · simp [putTgs_len e2 ⟨ρ', hr⟩]
    · rw [hr] at e2; cases e2
section
variable {X : Cx} {T : Tbl} {W : XK} {H : Hp}
mutual
theorem putTg_rd : ∀ (tg : Tg) {x : D} {v : V} {F : Hp} {ρ ρ' : En} {fps : List (List Addr)} {σ : L2.St} {r : Res Unit} {Q : L2.St → Hp → Prop}, Ok T F ρ fps σ H → RD T F v x → putTg tg x ρ = some (r, ρ') →
    (∀ σ' fps', Ok T F ρ' fps' σ' H → (∀ a ∈ fps'.flatten, a ∈ fps.flatten) → (∀ j, j ∉ tg.slots → σ'[j]? = σ[j]?) → σ'.length = σ.length → r = .ok () → Q σ' H) → gTg T.K tg v σ H Q
  | .v i, x, v, F, ρ, ρ', fps, σ, r, Q, ok, rv, e, q => by
    simp only [putTg, mPut] at e
    split at e
    · rename_i hi
      cases e
      show Q (σ.set i (some v)) H
      refine q _ (fps.set i []) (ok.store (.d rv) (by simpa using ok.nd) (by simp) hi) (fun a ha => flat_hide_sub ha) (fun j hj => ?_) (by simp) rfl
      simp only [Tg.slots, List.mem_singleton] at hj
      rw [List.getElem?_set_ne (fun z => hj z.symm)]
    · cases e
  | .u ts, x, v, F, ρ, ρ', fps, σ, r, Q, ok, rv, e, q => by
    cases x with
    | tup xs =>
      simp only [putTg] at e
      cases rv with
      | tup hs rvs =>
        show gTup T.K ts.length (gTgs T.K ts) _ σ H Q
        cases r with
        | err y => exact absurd e (fun e => by exact (putTgs_noerr ts e))
        | ok u =>
          refine ⟨_, _, rfl, sqT_mono ok.sub hs, by rw [rvs.length]; exact (putTgs_len e ⟨ρ', rfl⟩).symm, ?_⟩
          exact putTgs_rd ts ok rvs e fun σ' fps' a b c d => q σ' fps' a b (fun j hj => c j (by simpa only [Tg.slots] using hj)) d rfl
    | _ => simp only [putTg] at e; cases e
theorem putTgs_rd : ∀ (ts : List Tg) {xs : List D} {vs : List V} {F : Hp} {ρ ρ' : En} {fps : List (List Addr)} {σ : L2.St} {Q : L2.St → Hp → Prop}, Ok T F ρ fps σ H → RDs T F vs xs → putTgs ts xs ρ = some (.ok (), ρ') →
    (∀ σ' fps', Ok T F ρ' fps' σ' H → (∀ a ∈ fps'.flatten, a ∈ fps.flatten) → (∀ j, j ∉ Tg.slotss ts → σ'[j]? = σ[j]?) → σ'.length = σ.length → Q σ' H) → gTgs T.K ts vs σ H Q
  | [], xs, vs, F, ρ, ρ', fps, σ, Q, ok, rv, e, q => by
    cases rv with
    | nil =>
      simp only [putTgs] at e
      cases e
      exact ⟨rfl, q σ fps ok (fun a h => h) (fun j _ => rfl) rfl⟩
    | cons a b => simp only [putTgs] at e; cases e
  | t :: ts, xs, vs, F, ρ, ρ', fps, σ, Q, ok, rv, e, q => by
    cases rv with
    | nil => simp only [putTgs] at e; cases e
    | cons rv rvs =>
      simp only [putTgs] at e
      rcases bind_cases e with ⟨_, ρ1, e1, e2⟩ | ⟨y, ρ1, _, e2⟩
      · refine ⟨_, _, rfl, putTg_rd t ok rv e1 fun σ1 fps1 k1 s1 c1 d1 _ => ?_⟩
        exact putTgs_rd ts k1 rvs e2 fun σ2 fps2 k2 s2 c2 d2 => q σ2 fps2 k2 (fun a h => s1 a (s2 a h)) (fun j hj => by
          simp only [Tg.slotss, List.mem_append, not_or] at hj
          rw [c2 j hj.2, c1 j hj.1]) (d2.trans d1)
      · cases e2
theorem putTgs_noerr : ∀ (ts : List Tg) {xs : List D} {ρ ρ' : En} {y : Ex}, putTgs ts xs ρ = some (.err y, ρ') → False
  | [], [], _, _, _, h => by simp only [putTgs] at h; cases h
  | [], x :: xs, _, _, _, h => by simp only [putTgs] at h; cases h
  | t :: ts, [], _, _, _, h => by simp only [putTgs] at h; cases h
  | t :: ts, x :: xs, ρ, ρ', y, h => by
    simp only [putTgs] at h
    rcases bind_cases h with ⟨_, ρ1, _, e2⟩ | ⟨z, ρ1, e1, e2⟩
    · exact putTgs_noerr ts e2
    · exact putTg_noerr t e1
theorem putTg_noerr : ∀ (t : Tg) {x : D} {ρ ρ' : En} {y : Ex}, putTg t x ρ = some (.err y, ρ') → False
  | .v i, x, ρ, ρ', y, h => by
    simp only [putTg, mPut] at h
    split at h <;> cases h
  | .u ts, x, ρ, ρ', y, h => by
    cases x <;> simp only [putTg] at h
    case tup xs => exact putTgs_noerr ts h
    all_goals cases h
end
end

/-! ### what is walked -/
def Kept (O : List Addr) (H H2 : Hp) : Prop := ∀ b o, H b = some o → b ∉ O → H2 b = some o
/-- an iterator gives the items; O: the addresses that may change meanwhile -/
def WalkD (T : Tbl) (F H : Hp) (O : List Addr) (J : It) (items : List D) : Prop := ∃ (G : Hp → Prop) (Y : Nat → Hp → V → Hp → Prop), Walk J items.length G Y ∧ (∀ H2, Kept O H H2 → G H2) ∧
  ∀ i x H2 H3 d ρ2 fps2 σ2 F2, items[i]? = some d → Kept O H H2 → Ok T F2 ρ2 fps2 σ2 H2 → Same F F2 → Y i H2 x H3 → ∃ F3, Ok T F3 ρ2 fps2 σ2 H3 ∧ RD T F3 x d ∧ Stp F2 fps2.flatten H2 F3 fps2.flatten H3 ∧ (∀ b o, H2 b = some o → H3 b = some o) ∧ (∀ b, H2 b ≠ none → F2 b = none → F3 b = none)
section
variable {T : Tbl} {F H : Hp} {O : List Addr}
theorem walkD_list {a : Addr} {vs : List V} {xs : List D} (h : H a = some (.lst vs)) (hO : a ∉ O) (r : RDs T F vs xs) : WalkD T F H O (Itl T.K a) xs := by
  refine ⟨fun H2 => SqL T.K H2 a vs, YAt vs, by rw [← r.length]; exact walk_list, fun H2 k => SqL.of (k a _ h hO), ?_⟩
  rintro i x H2 H3 d ρ2 fps2 σ2 F2 e _ ok s ⟨e3, ex⟩
  subst e3
  obtain ⟨u, hu, ru⟩ := r.get e
  rw [ex] at hu
  cases hu
  exact ⟨F2, ok, ru.mono s, Stp.refl, fun _ _ q => q, fun _ _ q => q⟩
theorem sqT_kept {a : Addr} {vs : List V} {H2 : Hp} (s : Same F H) (hn : ∀ b ∈ O, F b = none) (k : Kept O H H2) (h : SqT T.K F a vs) : SqT T.K H2 a vs := by
  have up : ∀ b o, F b = some o → H2 b = some o := fun b o e => k b o (s b o e) fun z => by rw [hn b z] at e; cases e
  exact sqT_mono up h
theorem walkD_tup {a : Addr} {vs : List V} {xs : List D} (h : SqT T.K F a vs) (s : Same F H) (hn : ∀ b ∈ O, F b = none) (r : RDs T F vs xs) : WalkD T F H O (Itt T.K a) xs := by
  refine ⟨fun H2 => SqT T.K H2 a vs, YAt vs, by rw [← r.length]; exact walk_tup, fun H2 k => sqT_kept s hn k h, ?_⟩
  rintro i x H2 H3 d ρ2 fps2 σ2 F2 e _ ok s ⟨e3, ex⟩
  subst e3
  obtain ⟨u, hu, ru⟩ := r.get e
  rw [ex] at hu
  cases hu
  exact ⟨F2, ok, ru.mono s, Stp.refl, fun _ _ q => q, fun _ _ q => q⟩
theorem walkD_rol {a : Addr} {vs : List V} {xs : List D} (h : SqL T.K F a vs) (s : Same F H) (hn : ∀ b ∈ O, F b = none) (r : RDs T F vs xs) : WalkD T F H O (Itl T.K a) xs := by
  refine ⟨fun H2 => SqL T.K H2 a vs, YAt vs, by rw [← r.length]; exact walk_list, fun H2 k => ?_, ?_⟩
  · have up : Same F H2 := fun b o e => k b o (s b o e) fun z => by rw [hn b z] at e; cases e
    exact up.seq h
  · rintro i x H2 H3 d ρ2 fps2 σ2 F2 e _ ok s ⟨e3, ex⟩
    subst e3
    obtain ⟨u, hu, ru⟩ := r.get e
    rw [ex] at hu
    cases hu
    exact ⟨F2, ok, ru.mono s, Stp.refl, fun _ _ q => q, fun _ _ q => q⟩
theorem walkD_str {z : Str} : WalkD T F H O (Its z) (D.signs z) := by
  have hl : (D.signs z).length = z.cps.size := by simp [D.signs]
  refine ⟨fun _ => True, _, by rw [hl]; exact walk_str, fun _ _ => trivial, ?_⟩
  rintro i x H2 H3 d ρ2 fps2 σ2 F2 e _ ok s ⟨e3, c, hc, ex⟩
  subst e3 ex
  have : d = .str ⟨#[c]⟩ := by
    simp only [D.signs, List.getElem?_map, Array.getElem?_toList, hc, Option.map_some, Option.some.injEq] at e
    exact e.symm
  subst this
  exact ⟨F2, ok, .str _, Stp.refl, fun _ _ q => q, fun _ _ q => q⟩
theorem walkD_range {lo : Int} {n : Nat} : WalkD T F H O (Itr lo n) (rangeD lo n) := by
  have hl : (rangeD lo n).length = n := by simp [rangeD]
  refine ⟨fun _ => True, _, by rw [hl]; exact walk_range, fun _ _ => trivial, ?_⟩
  rintro i x H2 H3 d ρ2 fps2 σ2 F2 e _ ok s ⟨e3, ex⟩
  subst e3
  have hd : d = .int (lo + (i : Int)) := by
    simp only [rangeD, List.getElem?_map] at e
    cases q : (List.range n)[i]? with
    | none => rw [q] at e; cases e
    | some k =>
      rw [q] at e
      have hi : i < n := by simpa using (List.getElem?_eq_some_iff.mp q).1
      rw [List.getElem?_range hi] at q
      cases q
      exact (Option.some.inj e).symm
  subst hd
  rw [ex]
  exact ⟨F2, ok, .int _, Stp.refl, fun _ _ q => q, fun _ _ q => q⟩
/-- a pair just made -/
theorem pair_new {ρ2 : En} {fps2 : List (List Addr)} {σ2 : L2.St} {F2 H2 : Hp} {p : Addr} {x y : V} {a b : D} (ok : Ok T F2 ρ2 fps2 σ2 H2) (hp : H2 p = none) (ra : RD T F2 x a) (rb : RD T F2 y b) :
    ∃ F3, Ok T F3 ρ2 fps2 σ2 (upd H2 p (.tup [x, y])) ∧ RD T F3 (.ref p) (.tup [a, b]) ∧ Stp F2 fps2.flatten H2 F3 fps2.flatten (upd H2 p (.tup [x, y])) ∧ (∀ b o, H2 b = some o → upd H2 p (.tup [x, y]) b = some o) ∧ (∀ b, H2 b ≠ none → F2 b = none → F3 b = none) := by
  have hF := free_F ok.sub hp
  have sF : Same F2 (upd F2 p (.tup [x, y])) := upd_le hF
  have sH : Same H2 (upd H2 p (.tup [x, y])) := upd_le hp
  refine ⟨upd F2 p (.tup [x, y]), (ok.kept sH).grow sF (fun c u e => ?_) (fun c hc => ?_), rd_newT hF (.cons ra (.cons rb .nil)), ⟨sF, fun c u e _ => sH c u e, fun c hc => .inl hc, fun c hc => ?_, fun c hc e => ?_⟩, sH, fun c hc e => ?_⟩
  · by_cases hb : c = p
    · subst hb; rw [upd_same] at e ⊢; exact e
    · rw [upd_ne hb] at e ⊢; exact ok.sub c u e
  · rw [upd_ne (fun z : c = p => ok.live c hc (by rw [z]; exact hp))]
    exact ok.fr c hc
  · by_cases hb : c = p
    · subst hb; exact .inr (.inr hp)
    · rw [upd_ne hb] at hc; exact .inl hc
  · cases z : H2 c with
    | none => exact hc z
    | some u => rw [sH c u z] at e; cases e
  · rw [upd_ne (fun z : c = p => hc (by rw [z]; exact hp))]
    exact e
theorem zip_get {xs ys : List D} {i : Nat} {d : D} (e : ((xs.zip ys).map fun p => D.tup [p.1, p.2])[i]? = some d) : ∃ x y, xs[i]? = some x ∧ ys[i]? = some y ∧ d = .tup [x, y] := by
  rw [List.getElem?_map] at e
  cases q : (xs.zip ys)[i]? with
  | none => rw [q] at e; cases e
  | some p =>
    rw [q] at e
    obtain ⟨a, b⟩ := p
    have := List.getElem?_zip_eq_some.mp q
    exact ⟨a, b, this.1, this.2, (Option.some.inj e).symm⟩
theorem walkD_zip {a b : Addr} {vs ws : List V} {xs ys : List D} (ha : F a = some (.lst vs)) (hb : F b = some (.lst ws)) (s : Same F H) (hn : ∀ b ∈ O, F b = none) (ra : RDs T F vs xs) (rb : RDs T F ws ys) :
    WalkD T F H O (Itz T.K a b) ((xs.zip ys).map fun p => .tup [p.1, p.2]) := by
  have up : ∀ {H2 : Hp}, Kept O H H2 → Same F H2 := fun {H2} k b o e => k b o (s b o e) fun z => by rw [hn b z] at e; cases e
  refine ⟨fun H2 => SqL T.K H2 a vs ∧ SqL T.K H2 b ws, _, walk_zip (by simp [ra.length, rb.length]), fun H2 k => ⟨SqL.of (up k _ _ ha), SqL.of (up k _ _ hb)⟩, ?_⟩
  rintro i v H2 H3 d ρ2 fps2 σ2 F2 e _ ok s2 ⟨p, x, y, rfl, hp, rfl, ex, ey⟩
  obtain ⟨dx, dy, e1, e2, rfl⟩ := zip_get e
  obtain ⟨u, hu, ru⟩ := ra.get e1
  obtain ⟨w, hw, rw'⟩ := rb.get e2
  have ex : vs[i]? = some x := ex
  have ey : ws[i]? = some y := ey
  rw [ex] at hu
  rw [ey] at hw
  cases hu
  cases hw
  exact pair_new ok hp (ru.mono s2) (rw'.mono s2)
theorem walk_zipT {K : PySem.W.Frag} {a b : Addr} {xs ys : List V} {n : Nat} (hn : n = min xs.length ys.length) : Walk (RZ.ItzT K a b) n (fun H => SqT K H a xs ∧ SqT K H b ys) (YPair (fun i => xs[i]?) (fun i => ys[i]?)) := by
  subst hn
  refine ⟨fun i _ hi q => ?_, fun _ q => ⟨xs, ys, q.1, q.2, by omega⟩, fun i H v H' _ q y => ?_⟩
  · have h1 : i < xs.length := by omega
    have h2 : i < ys.length := by omega
    exact ⟨xs, ys, xs[i], ys[i], q.1, q.2, by simp [h1], by simp [h2]⟩
  · obtain ⟨T, x, z, h1, h2, h3, h4, h5⟩ := y
    exact ⟨T, x, z, h1, h2, h3, h4 xs q.1, h5 ys q.2⟩
theorem walkD_zipT {a b : Addr} {vs ws : List V} {xs ys : List D} (ha : SqT T.K F a vs) (hb : SqT T.K F b ws) (s : Same F H) (hn : ∀ b ∈ O, F b = none) (ra : RDs T F vs xs) (rb : RDs T F ws ys) :
    WalkD T F H O (RZ.ItzT T.K a b) ((xs.zip ys).map fun p => .tup [p.1, p.2]) := by
  refine ⟨fun H2 => SqT T.K H2 a vs ∧ SqT T.K H2 b ws, _, walk_zipT (by simp [ra.length, rb.length]), fun H2 k => ⟨sqT_kept s hn k ha, sqT_kept s hn k hb⟩, ?_⟩
  rintro i v H2 H3 d ρ2 fps2 σ2 F2 e _ ok s2 ⟨p, x, y, rfl, hp, rfl, ex, ey⟩
  obtain ⟨dx, dy, e1, e2, rfl⟩ := zip_get e
  obtain ⟨u, hu, ru⟩ := ra.get e1
  obtain ⟨w, hw, rw'⟩ := rb.get e2
  have ex : vs[i]? = some x := ex
  have ey : ws[i]? = some y := ey
  rw [ex] at hu
  rw [ey] at hw
  cases hu
  cases hw
  exact pair_new ok hp (ru.mono s2) (rw'.mono s2)
theorem enumD_get : ∀ {xs : List D} {k i : Nat} {d : D}, (enumD k xs)[i]? = some d → ∃ x, xs[i]? = some x ∧ d = .tup [.int ((k + i : Nat) : Int), x]
  | [], k, i, d, e => by simp [enumD] at e
  | x :: xs, k, 0, d, e => by
    simp [enumD] at e
    exact ⟨x, rfl, e.symm⟩
  | x :: xs, k, i + 1, d, e => by
    simp only [enumD, List.getElem?_cons_succ] at e
    obtain ⟨y, h1, h2⟩ := enumD_get e
    exact ⟨y, h1, by rw [h2]; congr 4; omega⟩
theorem enumD_length : ∀ {xs : List D} {k : Nat}, (enumD k xs).length = xs.length
  | [], _ => rfl
  | x :: xs, k => by simp [enumD, enumD_length]
theorem walkD_enum {a : Addr} {vs : List V} {xs : List D} (ha : F a = some (.lst vs)) (s : Same F H) (hn : ∀ b ∈ O, F b = none) (ra : RDs T F vs xs) : WalkD T F H O (Ite T.K a) (enumD 0 xs) := by
  have up : ∀ {H2 : Hp}, Kept O H H2 → Same F H2 := fun {H2} k b o e => k b o (s b o e) fun z => by rw [hn b z] at e; cases e
  refine ⟨fun H2 => SqL T.K H2 a vs, _, by rw [enumD_length, ← ra.length]; exact walk_enum, fun H2 k => SqL.of (up k _ _ ha), ?_⟩
  rintro i v H2 H3 d ρ2 fps2 σ2 F2 e _ ok s2 ⟨p, x, y, rfl, hp, rfl, ex, ey⟩
  obtain ⟨dy, e1, rfl⟩ := enumD_get e
  obtain ⟨u, hu, ru⟩ := ra.get e1
  have ey : vs[i]? = some y := ey
  rw [ey] at hu
  cases hu
  cases ex
  rw [Nat.zero_add]
  exact pair_new ok hp (.int _) (ru.mono s2)
end

/-! ### sources -/
def hideF : Option Nat → List (List Addr) → List (List Addr)
  | some i, fps => fps.set i []
  | none, fps => fps
def PostI (T : Tbl) (W : XK) (hid : Option Nat) (F : Hp) (O : List Addr) (H : Hp) (σ : L2.St) (R : It → Hp → Prop) : Res (List D) × En → Prop
  | (.ok items, ρ') => ∀ J F' fps' H', Ok T F' ρ' fps' σ H' → Stp F O H F' fps'.flatten H' → WalkD T F' H' (hideF hid fps').flatten J items → R J H'
  | (.err x, ρ') => ∀ cls d F' fps' H', Ok T F' ρ' fps' σ H' → RX T F' H' x cls d → Stp F O H F' fps'.flatten H' → W cls d H'
def tI (T : Tbl) (W : XK) (hid : Option Nat) (f : M (List D)) : TI := fun σ H R => ∃ F ρ fps r, Ok T F ρ fps σ H ∧ f ρ = some r ∧ PostI T W hid F fps.flatten H σ R r
section
variable {X : Cx} {T : Tbl} {W : XK} {σ : L2.St} {H : Hp}
def iAny (K : PySem.W.Frag) (tl : TE) : TI := fun σ H R => tl σ H fun x H1 => (∃ a, x = .ref a ∧ (∃ xs, SqL K H1 a xs) ∧ R (Itl K a) H1) ∨ (∃ a, x = .ref a ∧ (∃ xs, SqT K H1 a xs) ∧ R (Itt K a) H1) ∨ ∃ z, x = .str z ∧ R (Its z) H1
theorem pi_any {tg l : Expr} {tl : TE} (hl : PE X l tl) : PI X tg l (iAny X.K tl) := by
  refine ⟨fun pins s σ H R I h => ?_⟩
  refine thn (hl.run pins s σ H _ I h) fun v s1 ⟨x, H1, I1, r1, q1⟩ => ?_
  rcases q1 with ⟨a, e, ⟨xs, hq⟩, q⟩ | ⟨a, e, ⟨xs, hq⟩, q⟩ | ⟨z, e, q⟩
  · subst e
    cases r1
    obtain ⟨its, rv, p, hz⟩ := I1.list hq
    exact wpAny_pyIter_list p.isList (pi_one (tk := s1.toks) I1 _ (turn_list a _) ⟨_, Heap.get?_push_size _ rfl, rfl, rfl⟩ q)
  · subst e
    cases r1
    obtain ⟨its, rv, p, hz⟩ := I1.tuple hq
    exact wpAny_pyIter_tuple (show s1.heap.IsTuple a its.toArray from p) (pi_one (tk := s1.toks) I1 _ (turn_tuple a _) ⟨_, Heap.get?_push_size _ rfl, rfl, rfl⟩ q)
  · subst e
    obtain ⟨t, rfl⟩ := r1
    cases ha : z.cps.all (· < 128)
    · exact wpAny_pyIter_wide ha (pi_one (tk := s1.toks) I1 _ (turn_str _ z t "str_iterator" (.inr rfl)) ⟨_, Heap.get?_push_size _ rfl, rfl, rfl⟩ q)
    · exact wpAny_pyIter_ascii ha (pi_one (tk := s1.toks) I1 _ (turn_str _ z t "str_ascii_iterator" (.inl rfl)) ⟨_, Heap.get?_push_size _ rfl, rfl, rfl⟩ q)
/-- a frozen sequence is walked -/
theorem items_walk {F : Hp} {O : List Addr} {v : V} {x : D} {items : List D} {R : It → Hp → Prop} (s : Same F H) (hn : ∀ b ∈ O, F b = none) (r : RD T F v x) (e : x.items = some items) (k : ∀ J, WalkD T F H O J items → R J H) :
    (∃ a, v = .ref a ∧ (∃ xs, SqL T.K H a xs) ∧ R (Itl T.K a) H) ∨ (∃ a, v = .ref a ∧ (∃ xs, SqT T.K H a xs) ∧ R (Itt T.K a) H) ∨ ∃ z, v = .str z ∧ R (Its z) H := by
  cases x <;> simp only [D.items, Option.some.injEq, reduceCtorEq] at e <;> subst e
  · cases r with
    | str => exact .inr (.inr ⟨_, rfl, k _ walkD_str⟩)
  · cases r with
    | tup h r => exact .inr (.inl ⟨_, rfl, ⟨_, sqT_mono s h⟩, k _ (walkD_tup h s hn r)⟩)
  · cases r with
    | lst h r => exact .inl ⟨_, rfl, ⟨_, SqL.of (s _ _ h)⟩, k _ (walkD_list (s _ _ h) (fun z => by rw [hn _ z] at h; cases h) r)⟩
  · cases r with
    | rol h r => exact .inl ⟨_, rfl, ⟨_, s.seq h⟩, k _ (walkD_rol h s hn r)⟩
theorem mOpt_cases {α : Type} {o : Option α} {ρ : En} {r : Res α × En} (h : mOpt o ρ = some r) : ∃ a, o = some a ∧ r = (.ok a, ρ) := by
  cases o with
  | none => cases h
  | some a => cases h; exact ⟨a, rfl, rfl⟩
theorem src_seq {a : EV} {R : It → Hp → Prop} (h : tI T W (srcM .seq [a]).2 (srcM .seq [a]).1 σ H R) : iAny T.K (rdV T W a) σ H R := by
  obtain ⟨F, ρ, fps, r, ok, e, p⟩ := h
  simp only [srcM] at e p
  unfold iAny rdV
  cases hb : a.bor with
  | none =>
    rw [hb] at e p
    simp only at e p
    rcases bind_cases e with ⟨x, ρ1, e1, e2⟩ | ⟨x, ρ1, e1, rfl⟩
    · rcases bind_cases e1 with ⟨o, ρ2, e3, e4⟩ | ⟨y, ρ2, e3, e4⟩
      · cases e4
        obtain ⟨items, ei, rfl⟩ := mOpt_cases e2
        refine ⟨F, ρ, fps, _, ok, .nil, e3, fun v fp F' fps' H' h1 h2 h3 h4 h5 => ?_⟩
        obtain ⟨k1, k2⟩ := h1.freeze h2 h3 h4
        have st := h5.freeze h4
        exact items_walk k1.sub k1.fr k2 ei fun J w => p J _ fps' H' k1 st w
      · cases e4
    · rcases bind_cases e1 with ⟨o, ρ2, e3, e4⟩ | ⟨y, ρ2, e3, e4⟩
      · cases e4
      · cases e4
        exact ⟨F, ρ, fps, _, ok, .nil, e3, p⟩
  | some i =>
    rw [hb] at e p
    simp only at e p
    obtain ⟨o, x, e1, e2, e3⟩ := mBor_cases e
    obtain ⟨items, ei, rfl⟩ := mOpt_cases e3
    obtain ⟨v, fp, h1, h2, ro⟩ := ok.slot i o e1
    refine ⟨v, h1, ?_⟩
    have ap := flat_hide_apart ok.nd h2
    rw [List.nodup_append] at ap
    have hn : ∀ b ∈ (fps.set i []).flatten, F b = none := fun b hb => ok.fr b (flat_hide_sub hb)
    have fin : ∀ J, WalkD T F H (fps.set i []).flatten J items → R J H := fun J w => p J F fps H ok Stp.refl w
    cases ro.flat e2 with
    | fro r => exact items_walk ok.sub hn r ei fin
    | @lst a' vs ds h r =>
      simp only [D.items, Option.some.injEq] at ei
      subst ei
      refine .inl ⟨_, rfl, ⟨_, SqL.of h⟩, fin _ (walkD_list h (fun z => ?_) r)⟩
      -- an owned list's own address is not among the others
      cases ro with
      | d q => cases q with
        | lst q _ => have := hn _ z; rw [q] at this; cases this
        | tup q _ => simp only [OV.flat, Option.some.injEq, reduceCtorEq] at e2
        | _ => simp only [OV.flat, Option.some.injEq, reduceCtorEq] at e2
      | lst _ _ => exact ap.2.2 _ List.mem_cons_self _ z rfl
      | dK _ _ => simp only [OV.flat, Option.some.injEq, reduceCtorEq] at e2
      | dT _ _ => simp only [OV.flat, Option.some.injEq, reduceCtorEq] at e2
      | obj _ _ _ _ =>
        simp only [OV.flat] at e2
        rename_i os _ _ _ _ _
        cases q : OV.ds os <;> rw [q] at e2 <;> cases e2
    | dK _ _ => simp only [D.items, reduceCtorEq] at ei
    | dT _ _ => simp only [D.items, reduceCtorEq] at ei
    | obj _ _ _ _ => simp only [D.items, reduceCtorEq] at ei
end
end IR
end
section
set_option Elab.async false
set_option linter.all false
set_option maxRecDepth 100000
set_option maxHeartbeats 2000000
/-! ISnd4: the other sources; comprehensions. -/
namespace IR
open PySem PySem.Spec L2

section
variable {X : Cx} {T : Tbl} {W : XK} {σ : L2.St} {H : Hp}
/-- one operand's data, then items -/
theorem src_one {a : EV} {f : D → M (List D)} {hid : Option Nat} {R : It → Hp → Prop} (hb : a.bor = none) (h : tI T W hid (M.bind (M.fz a.val) f) σ H R) :
    tE T W a.val σ H fun v H1 => ∃ x F ρ fps r, Ok T F ρ fps σ H1 ∧ RD T F v x ∧ f x ρ = some r ∧ PostI T W hid F fps.flatten H1 σ R r := by
  obtain ⟨F, ρ, fps, r, ok, e, p⟩ := h
  rcases bind_cases e with ⟨x, ρ1, e1, e2⟩ | ⟨x, ρ1, e1, rfl⟩
  · rcases bind_cases e1 with ⟨o, ρ2, e3, e4⟩ | ⟨y, ρ2, e3, e4⟩
    · cases e4
      refine ⟨F, ρ, fps, _, ok, .nil, e3, fun v fp F' fps' H' h1 h2 h3 h4 h5 => ?_⟩
      obtain ⟨k1, k2⟩ := h1.freeze h2 h3 h4
      have st := h5.freeze h4
      refine ⟨o.fz, _, ρ1, fps', r, k1, k2, e2, ?_⟩
      obtain ⟨rr, ρ'⟩ := r
      cases rr with
      | ok items => exact fun J F2 fps2 H2 g1 g2 g3 => p J F2 fps2 H2 g1 (st.trans g2) g3
      | err y => exact fun cls d F2 fps2 H2 g1 g2 g3 => p cls d F2 fps2 H2 g1 g2 (st.trans g3)
    · cases e4
  · rcases bind_cases e1 with ⟨o, ρ2, e3, e4⟩ | ⟨y, ρ2, e3, e4⟩
    · cases e4
    · cases e4
      exact ⟨F, ρ, fps, _, ok, .nil, e3, p⟩
theorem inR_le {i : Int} (h : inR i = true) : -(2 ^ 62) ≤ i ∧ i < 2 ^ 62 := by
  unfold inR at h
  simp only [Bool.and_eq_true, decide_eq_true_eq] at h
  exact h
theorem src_rng1 {a : EV} {R : It → Hp → Prop} (h : tI T W (srcM .rng [a]).2 (srcM .rng [a]).1 σ H R) : iRng1 (tArgs T W [a]) σ H R := by
  show rdV T W a σ H _
  unfold rdV
  simp only [srcM] at h
  cases hb : a.bor with
  | some i =>
    simp only [hb] at h
    obtain ⟨F, ρ, fps, r, ok, e, p⟩ := h
    cases e
  | none =>
    simp only [hb] at h
    refine (src_one hb h).mono fun v H1 ⟨x, F, ρ, fps, r, ok, rv, e, p⟩ => ?_
    cases x <;> simp only [vRng1] at e <;> try cases e
    rename_i n
    split at e
    · rename_i hc
      rw [Bool.and_eq_true] at hc
      cases e
      cases rv
      obtain ⟨h1, h2⟩ := inR_le hc.1
      exact ⟨n, rfl, h1, h2, p _ F fps H1 ok Stp.refl walkD_range⟩
    · cases e
theorem src_two {a b : EV} {f : D → D → M (List D)} {R : It → Hp → Prop} (ha : a.bor = none) (hb : b.bor = none) (h : tI T W none (M.bind (M.fz a.val) fun x => M.bind (M.fz b.val) fun y => f x y) σ H R) :
    tArgs T W [a, b] σ H fun vs H1 => ∃ v w x y F ρ fps r, vs = [v, w] ∧ Ok T F ρ fps σ H1 ∧ RD T F v x ∧ RD T F w y ∧ f x y ρ = some r ∧ PostI T W none F fps.flatten H1 σ R r := by
  show rdV T W a σ H fun v H1 => rdV T W b σ H1 _
  unfold rdV
  rw [ha, hb]
  refine (src_one ha h).mono fun v H1 ⟨x, F, ρ, fps, r, ok, rv, e, p⟩ => ?_
  rcases bind_cases e with ⟨y, ρ1, e1, e2⟩ | ⟨y, ρ1, e1, rfl⟩
  · rcases bind_cases e1 with ⟨o, ρ2, e3, e4⟩ | ⟨z, ρ2, e3, e4⟩
    · cases e4
      refine ⟨F, ρ, fps, _, ok, .nil, e3, fun w fp F' fps' H' h1 h2 h3 h4 h5 => ?_⟩
      obtain ⟨k1, k2⟩ := h1.freeze h2 h3 h4
      have st := h5.freeze h4
      refine ⟨v, w, x, o.fz, _, ρ1, fps', r, rfl, k1, rv.mono st.mono, k2, e2, ?_⟩
      obtain ⟨rr, ρ'⟩ := r
      cases rr with
      | ok items => exact fun J F2 fps2 H2 g1 g2 g3 => p J F2 fps2 H2 g1 (st.trans g2) g3
      | err y => exact fun cls d F2 fps2 H2 g1 g2 g3 => p cls d F2 fps2 H2 g1 g2 (st.trans g3)
    · cases e4
  · rcases bind_cases e1 with ⟨o, ρ2, e3, e4⟩ | ⟨z, ρ2, e3, e4⟩
    · cases e4
    · cases e4
      exact ⟨F, ρ, fps, _, ok, .nil, e3, p⟩
theorem src_rng2 {a b : EV} {R : It → Hp → Prop} (h : tI T W (srcM .rng [a, b]).2 (srcM .rng [a, b]).1 σ H R) : iRng2 (tArgs T W [a, b]) σ H R := by
  simp only [srcM] at h
  cases ha : a.bor with
  | some i =>
    simp only [ha] at h
    obtain ⟨F, ρ, fps, r, ok, e, p⟩ := h
    cases e
  | none =>
    cases hb : b.bor with
    | some i =>
      simp only [ha, hb] at h
      obtain ⟨F, ρ, fps, r, ok, e, p⟩ := h
      cases e
    | none =>
      simp only [ha, hb] at h
      refine tArgs_mono (src_two ha hb h) fun vs H1 ⟨v, w, x, y, F, ρ, fps, r, e0, ok, rv, rw', e, p⟩ => ?_
      subst e0
      cases x <;> cases y <;> simp only [vRng2] at e <;> try cases e
      rename_i i j
      split at e
      · rename_i hc
        simp only [Bool.and_eq_true] at hc
        cases e
        cases rv
        cases rw'
        obtain ⟨h1, h2⟩ := inR_le hc.1.1
        obtain ⟨h3, h4⟩ := inR_le hc.1.2
        exact ⟨i, j, rfl, ⟨h1, h2, h3, h4⟩, p _ F fps H1 ok Stp.refl walkD_range⟩
      · cases e
theorem src_zip {a b : EV} {R : It → Hp → Prop} (h : tI T W (srcM .zip [a, b]).2 (srcM .zip [a, b]).1 σ H R) : RZ.iZipA T.K (tArgs T W [a, b]) σ H R := by
  simp only [srcM] at h
  cases ha : a.bor with
  | some i =>
    simp only [ha] at h
    obtain ⟨F, ρ, fps, r, ok, e, p⟩ := h
    cases e
  | none =>
    cases hb : b.bor with
    | some i =>
      simp only [ha, hb] at h
      obtain ⟨F, ρ, fps, r, ok, e, p⟩ := h
      cases e
    | none =>
      simp only [ha, hb] at h
      refine tArgs_mono (src_two ha hb h) fun vs H1 ⟨v, w, x, y, F, ρ, fps, r, e0, ok, rv, rw', e, p⟩ => ?_
      subst e0
      cases x <;> cases y <;> simp only [vZip] at e <;> try cases e
      · cases rv with
        | tup h1 r1 => cases rw' with
          | tup h2 r2 => exact ⟨_, _, _, _, rfl, .inr ⟨sqT_mono ok.sub h1, sqT_mono ok.sub h2, p _ F fps H1 ok Stp.refl (walkD_zipT h1 h2 ok.sub ok.fr r1 r2)⟩⟩
      · cases rv with
        | lst h1 r1 => cases rw' with
          | lst h2 r2 => exact ⟨_, _, _, _, rfl, .inl ⟨SqL.of (ok.sub _ _ h1), SqL.of (ok.sub _ _ h2), p _ F fps H1 ok Stp.refl (walkD_zip h1 h2 ok.sub ok.fr r1 r2)⟩⟩
theorem src_enm {a : EV} {R : It → Hp → Prop} (h : tI T W (srcM .enm [a]).2 (srcM .enm [a]).1 σ H R) : iEnum T.K (tArgs T W [a]) σ H R := by
  show rdV T W a σ H _
  unfold rdV
  simp only [srcM] at h
  cases hb : a.bor with
  | some i =>
    simp only [hb] at h
    obtain ⟨F, ρ, fps, r, ok, e, p⟩ := h
    cases e
  | none =>
    simp only [hb] at h
    refine (src_one hb h).mono fun v H1 ⟨x, F, ρ, fps, r, ok, rv, e, p⟩ => ?_
    cases x <;> simp only [vEnm] at e <;> try cases e
    cases rv with
    | lst h1 r1 => exact ⟨_, _, rfl, SqL.of (ok.sub _ _ h1), p _ F fps H1 ok Stp.refl (walkD_enum h1 ok.sub ok.fr r1)⟩

/-! ### comprehensions -/
theorem wipe_get {σ : L2.St} {j : Nat} : ∀ {is : List Nat}, (L2.wipe σ is)[j]? = if j ∈ is ∧ j < σ.length then some none else σ[j]?
  | [] => by simp [L2.wipe]
  | i :: is => by
    unfold L2.wipe
    rw [List.getElem?_set]
    have ih := wipe_get (σ := σ) (j := j) (is := is)
    by_cases hij : i = j
    · subst hij
      rw [if_pos rfl, L2.wipe_length]
      by_cases hl : i < σ.length
      · rw [if_pos hl, if_pos ⟨List.mem_cons_self, hl⟩]
      · rw [if_neg hl, if_neg fun z => hl z.2]
        rw [List.getElem?_eq_none (by omega)]
    · rw [if_neg hij, ih]
      have : j ∈ i :: is ↔ j ∈ is := by
        rw [List.mem_cons]
        exact ⟨fun z => z.resolve_left fun e => hij e.symm, .inr⟩
      simp only [this]
theorem wipeE_length {ρ : En} : ∀ {is : List Nat}, (wipeE ρ is).length = ρ.length
  | [] => rfl
  | i :: is => by unfold wipeE; rw [List.length_set, wipeE_length]
theorem wipeE_get {ρ : En} {j : Nat} : ∀ {is : List Nat}, (wipeE ρ is)[j]? = if j ∈ is ∧ j < ρ.length then some none else ρ[j]?
  | [] => by simp [wipeE]
  | i :: is => by
    unfold wipeE
    rw [List.getElem?_set]
    have ih := wipeE_get (ρ := ρ) (j := j) (is := is)
    by_cases hij : i = j
    · subst hij
      rw [if_pos rfl, wipeE_length]
      by_cases hl : i < ρ.length
      · rw [if_pos hl, if_pos ⟨List.mem_cons_self, hl⟩]
      · rw [if_neg hl, if_neg fun z => hl z.2]
        rw [List.getElem?_eq_none (by omega)]
    · rw [if_neg hij, ih]
      have : j ∈ i :: is ↔ j ∈ is := by
        rw [List.mem_cons]
        exact ⟨fun z => z.resolve_left fun e => hij e.symm, .inr⟩
      simp only [this]
def wipeF (fps : List (List Addr)) : List Nat → List (List Addr)
  | [] => fps
  | i :: is => (wipeF fps is).set i []
theorem wipeF_sub {fps : List (List Addr)} {a : Addr} : ∀ {is : List Nat}, a ∈ (wipeF fps is).flatten → a ∈ fps.flatten
  | [], h => h
  | i :: is, h => wipeF_sub (is := is) (flat_hide_sub (by unfold wipeF at h; exact h))
theorem Ok.wipes {F : Hp} {ρ : En} {fps : List (List Addr)} (k : Ok T F ρ fps σ H) : ∀ is : List Nat, Ok T F (wipeE ρ is) (wipeF fps is) σ H
  | [] => k
  | i :: is => by unfold wipeE wipeF; exact (k.wipes is).hide
/-- the slots of names that hold nothing may be forgotten -/
theorem Ok.slots {F : Hp} {ρ : En} {fps : List (List Addr)} {σ' : L2.St} (k : Ok T F ρ fps σ H) (hl : σ'.length = σ.length) (h : ∀ (i : Nat) (o : OV), ρ[i]? = some (some o) → σ'[i]? = σ[i]?) : Ok T F ρ fps σ' H :=
  ⟨k.sub, k.ls.trans hl.symm, k.lf, fun i o e => by
    obtain ⟨v, fp, h1, h2, r⟩ := k.slot i o e
    exact ⟨v, fp, by rw [h i o e]; exact h1, h2, r⟩, k.nd, k.fr, k.live⟩
theorem Stp.sub {F F1 H1 : Hp} {O O1 O2 : List Addr} (s : Stp F O H F1 O1 H1) (h : ∀ b ∈ O, b ∈ O2) (h1 : ∀ b ∈ O1, b ∈ O2 ∨ H b = none) : Stp F O2 H F1 O1 H1 :=
  ⟨s.mono, fun b o e hb => s.keep b o e fun z => hb (h b z), h1, fun b hb => (s.new b hb).imp id (.imp (h b) id), s.stay⟩
end
end IR
end
section
set_option Elab.async false
set_option linter.all false
set_option maxRecDepth 100000
set_option maxHeartbeats 4000000
/-! ISnd5: comprehensions. -/
namespace IR
open PySem PySem.Spec L2

section
variable {X : Cx} {T : Tbl} {W : XK} {σ : L2.St} {H : Hp}
theorem wipeF_app {fps : List (List Addr)} {js : List Nat} : ∀ is : List Nat, wipeF fps (is ++ js) = wipeF (wipeF fps js) is
  | [] => rfl
  | i :: is => by
    show (wipeF fps (is ++ js)).set i [] = (wipeF (wipeF fps js) is).set i []
    rw [wipeF_app is]
theorem wipeF_length {fps : List (List Addr)} : ∀ {is : List Nat}, (wipeF fps is).length = fps.length
  | [] => rfl
  | i :: is => by unfold wipeF; rw [List.length_set, wipeF_length]
theorem wipeF_get {fps : List (List Addr)} {j : Nat} : ∀ {is : List Nat}, (wipeF fps is)[j]? = if j ∈ is ∧ j < fps.length then some [] else fps[j]?
  | [] => by simp [wipeF]
  | i :: is => by
    unfold wipeF
    rw [List.getElem?_set]
    have ih := wipeF_get (fps := fps) (j := j) (is := is)
    by_cases hij : i = j
    · subst hij
      rw [if_pos rfl, wipeF_length]
      by_cases hl : i < fps.length
      · rw [if_pos hl, if_pos ⟨List.mem_cons_self, hl⟩]
      · rw [if_neg hl, if_neg fun z => hl z.2]
        rw [List.getElem?_eq_none (by omega)]
    · rw [if_neg hij, ih]
      have : j ∈ i :: is ↔ j ∈ is := by
        rw [List.mem_cons]
        exact ⟨fun z => z.resolve_left fun e => hij e.symm, .inr⟩
      simp only [this]
theorem backE_length {ρ ρ0 : En} : ∀ {is : List Nat}, (backE ρ ρ0 is).length = ρ.length
  | [] => rfl
  | i :: is => by unfold backE; rw [List.length_set, backE_length]
theorem backE_get {ρ ρ0 : En} {j : Nat} (hl : ρ.length = ρ0.length) : ∀ {is : List Nat}, (backE ρ ρ0 is)[j]? = if j ∈ is then ρ0[j]? else ρ[j]?
  | [] => by simp [backE]
  | i :: is => by
    unfold backE
    rw [List.getElem?_set]
    have ih := backE_get (j := j) hl (is := is)
    by_cases hij : i = j
    · subst hij
      rw [if_pos rfl, if_pos List.mem_cons_self, backE_length]
      by_cases h : i < ρ.length
      · rw [if_pos h]
        have h0 : i < ρ0.length := hl ▸ h
        rw [List.getElem?_eq_getElem h0]
      · rw [if_neg h]
        have h0 : ρ0.length ≤ i := by omega
        rw [List.getElem?_eq_none h0]
    · rw [if_neg hij, ih]
      have : j ∈ i :: is ↔ j ∈ is := by
        rw [List.mem_cons]
        exact ⟨fun z => z.resolve_left fun e => hij e.symm, .inr⟩
      simp only [this]
/-- an object that is nobody's is changed -/
theorem Ok.other {F H' : Hp} {ρ : En} {fps : List (List Addr)} {p : Addr} (k : Ok T F ρ fps σ H) (hF : F p = none) (hp : p ∉ fps.flatten) (h : ∀ b, b ≠ p → H' b = H b) : Ok T F ρ fps σ H' :=
  ⟨fun b o e => by
    rw [h b fun z => by rw [z, hF] at e; cases e]
    exact k.sub b o e, k.ls, k.lf, fun i o e => by
    obtain ⟨v, fp, h1, h2, r⟩ := k.slot i o e
    exact ⟨v, fp, h1, h2, r.mono (Same.refl _) fun a ha => h a fun z => hp (z ▸ mem_flat h2 ha)⟩, k.nd, k.fr, fun a ha => by
    rw [h a fun z => hp (z ▸ ha)]
    exact k.live a ha⟩
theorem loop_cons {turn : D → M (Option D)} {d : D} {rest : List D} {ρ ρ' : En} {ys : List D} (h : cprLoop turn (d :: rest) ρ = some (.ok ys, ρ')) :
    ∃ o ρ1 zs, turn d ρ = some (.ok o, ρ1) ∧ cprLoop turn rest ρ1 = some (.ok zs, ρ') ∧ ys = (match o with | some y => y :: zs | none => zs) := by
  unfold cprLoop at h
  rcases bind_cases h with ⟨o, ρ1, e1, e2⟩ | ⟨x, ρ1, e1, e2⟩
  · rcases bind_cases e2 with ⟨zs, ρ2, e3, e4⟩ | ⟨x, ρ2, e3, e4⟩
    · cases e4
      exact ⟨o, ρ1, zs, e1, e3, rfl⟩
    · cases e4
  · cases e2
theorem turn_cases {own : List Nat} {tg : Tg} {elt : M OV} {cond : M Bool} {d : D} {ρ ρ' : En} {o : Option D} (h : cprTurn own tg elt cond d ρ = some (.ok o, ρ')) :
    ∃ ρa b ρb, putTg tg d ρ = some (.ok (), ρa) ∧ cond ρa = some (.ok b, ρb) ∧ ((b = true ∧ ∃ u ρc, elt ρb = some (.ok u, ρc) ∧ o = some u.fz ∧ ρ' = wipeE ρc own) ∨ (b = false ∧ o = none ∧ ρ' = wipeE ρb own)) := by
  unfold cprTurn at h
  rcases bind_cases h with ⟨_, ρa, e1, e2⟩ | ⟨x, ρa, e1, e2⟩
  · rcases bind_cases e2 with ⟨b, ρb, e3, e4⟩ | ⟨x, ρb, e3, e4⟩
    · cases b with
      | true =>
        rw [if_pos rfl] at e4
        rcases bind_cases e4 with ⟨y, ρc, e5, e6⟩ | ⟨x, ρc, e5, e6⟩
        · rcases bind_cases e5 with ⟨u, ρd, e7, e8⟩ | ⟨x, ρd, e7, e8⟩
          · cases e8
            cases e6
            exact ⟨ρa, true, ρb, e1, e3, .inl ⟨rfl, u, _, e7, rfl, rfl⟩⟩
          · cases e8
        · cases e6
      | false =>
        rw [if_neg (by decide)] at e4
        cases e4
        exact ⟨ρa, false, ρb, e1, e3, .inr ⟨rfl, rfl, rfl⟩⟩
    · cases e4
  · cases e2
theorem iteT' {A B : Prop} (h : A) : if true = true then A else B := by rw [if_pos rfl]; exact h
theorem iteF' {A B : Prop} (h : B) : if false = true then A else B := by rw [if_neg (by decide)]; exact h
/-- nothing may be raised within -/
abbrev W0 : XK := fun _ _ _ => False
theorem cpr_rd {src : M (List D)} {hid : Option Nat} {own : List Nat} {tg : Tg} {elt : M OV} {cond : M Bool} {wi : TI} {tt : TT} {te : TE} {Q : VK} (hsrc : ∀ σ H R, tI T W hid src σ H R → wi σ H R)
    (htt : ∀ σ H Q, tT T W0 [] [] cond σ H Q → tt σ H Q) (hte : ∀ σ H Q, tE T W0 elt σ H Q → te σ H Q) (htg : ∀ j ∈ tg.slots, j ∈ own)
    (h : tE T W (cprM src hid own tg elt cond) σ H Q) : tLc wi (gTg T.K tg) tt te own σ H Q := by
  obtain ⟨F, ρ, fps, r, ok, _, e, p⟩ := h
  unfold cprM at e
  rcases bind_cases e with ⟨items, ρ1, e1, e2⟩ | ⟨x, ρ1, e1, rfl⟩
  case inr => exact hsrc _ _ _ ⟨F, ρ, fps, _, ok, e1, p⟩
  split at e2
  case isFalse => cases e2
  rename_i hc
  simp only [Bool.and_eq_true, decide_eq_true_eq] at hc
  obtain ⟨⟨hcD, hcL⟩, hcH⟩ := hc
  cases hlp : cprLoop (cprTurn own tg elt cond) items (wipeE ρ1 (own ++ hideL hid)) with
  | none => rw [hlp] at e2; cases e2
  | some pr =>
  obtain ⟨rr, ρ'⟩ := pr
  rw [hlp] at e2
  cases rr with
  | err x => cases e2
  | ok ys =>
  cases e2
  refine hsrc _ _ _ ⟨F, ρ, fps, _, ok, e1, fun J F1 fps1 H1 ok1 st1 wk D hD => ?_⟩
  obtain ⟨G, Y, wlk, hG, hY⟩ := wk
  have ok1w : Ok T F1 (wipeE ρ1 (own ++ hideL hid)) (wipeF fps1 (own ++ hideL hid)) (L2.wipe σ own) H1 := (ok1.wipes (own ++ hideL hid)).slots (L2.wipe_length _ _) fun i o ei => by
    rw [wipe_get]
    rw [wipeE_get] at ei
    split at ei
    · cases ei
    · rename_i hn
      have hi : i < ρ1.length := (List.getElem?_eq_some_iff.mp ei).1
      rw [if_neg fun z => hn ⟨List.mem_append_left _ z.1, hi⟩]
  have subO : ∀ b ∈ (wipeF fps1 (own ++ hideL hid)).flatten, b ∈ (hideF hid fps1).flatten := fun b hb => by
    rw [wipeF_app] at hb
    have z := wipeF_sub hb
    cases hid with
    | none => exact z
    | some i => exact z
  have sub1 : ∀ b ∈ (wipeF fps1 (own ++ hideL hid)).flatten, b ∈ fps1.flatten := fun b hb => wipeF_sub hb
  have kept : ∀ {F2 H2 : Hp} {O2 : List Addr}, Stp F1 (wipeF fps1 (own ++ hideL hid)).flatten H1 F2 O2 H2 → Kept (hideF hid fps1).flatten H1 H2 := fun {F2 H2 O2} s b o eb hb => s.keep b o eb fun z => hb (subO b z)
  refine lc_it wlk (fun i H2 => ∃ F2 ρ2 fps2 acc accD ysr, Ok T F2 ρ2 fps2 (L2.wipe σ own) H2 ∧ Stp F1 (wipeF fps1 (own ++ hideL hid)).flatten H1 F2 fps2.flatten H2 ∧ H2 D = some (.lst acc) ∧ RDs T F2 acc accD ∧ D ∉ fps2.flatten ∧ F2 D = none ∧ acc.length ≤ i ∧
    cprLoop (cprTurn own tg elt cond) (items.drop i) ρ2 = some (.ok ysr, ρ') ∧ accD ++ ysr = ys) ?_ ?_ ?_ ?_
  · refine ⟨F1, _, _, [], [], ys, ok1w.kept (upd_le hD), Stp.kept (upd_le hD), upd_same, .nil, fun z => ok1w.live D z hD, free_F ok1.sub hD, Nat.zero_le _, hlp, rfl⟩
  · rintro i H2 _ ⟨F2, ρ2, fps2, acc, accD, ysr, _, s, _⟩
    exact hG H2 (kept s)
  · rintro i x H2 H3 hi ⟨F2, ρ2, fps2, acc, accD, ysr, ok2, st2, hD2, ra, nD, FD, hlen, hl, hys⟩ hy
    have hdi : items.drop i = items[i] :: items.drop (i + 1) := List.drop_eq_getElem_cons hi
    rw [hdi] at hl
    obtain ⟨F3, ok3, rx, st3, k3, f3⟩ := hY i x H2 H3 items[i] ρ2 fps2 (L2.wipe σ own) F2 (List.getElem?_eq_getElem hi) (kept st2) ok2 (st2.mono) hy
    obtain ⟨o, ρ3, zs, ht, hrest, rfl⟩ := loop_cons hl
    obtain ⟨ρa, b, ρb, ha, hb, hcase⟩ := turn_cases ht
    have D3 : H3 D = some (.lst acc) := k3 D _ hD2
    have FD3 : F3 D = none := f3 D (by rw [hD2]; simp) FD
    refine putTg_rd tg ok3 rx ha fun σ2 fpsa oka suba outa lena _ => ⟨?_, ?_⟩
    · apply List.ext_getElem?
      intro j
      rw [wipe_get, wipe_get]
      have hll : σ2.length = σ.length := by rw [lena, L2.wipe_length]
      rw [hll]
      by_cases hj : j ∈ own ∧ j < σ.length
      · rw [if_pos hj, if_pos hj]
      · rw [if_neg hj, if_neg hj]
        by_cases hjo : j ∈ own
        · have hjl : σ.length ≤ j := Nat.le_of_not_lt fun z => hj ⟨hjo, z⟩
          rw [List.getElem?_eq_none (by omega), List.getElem?_eq_none (by omega)]
        · rw [outa j fun z => hjo (htg j z), wipe_get, if_neg fun z => hjo z.1]
    · refine htt _ _ _ ⟨F3, ρa, fpsa, _, oka, .nil, hb, fun F4 fpsb H4 okb stb => ?_⟩
      have nDa : D ∉ fpsa.flatten := fun z => nD (suba D z)
      have D4 : H4 D = some (.lst acc) := stb.keep D _ D3 nDa
      have nDb : D ∉ fpsb.flatten := fun z => by
        rcases stb.own D z with w | w
        · exact nDa w
        · rw [D3] at w; cases w
      have FD4 : F4 D = none := by
        cases z : F4 D with
        | none => rfl
        | some u =>
          rcases stb.new D (by rw [z]; simp) with w | w | w
          · exact absurd FD3 w
          · exact absurd w nDa
          · rw [D3] at w; cases w
      have stp4 : Stp F1 (wipeF fps1 (own ++ hideL hid)).flatten H1 F4 fpsb.flatten H4 := (st2.trans (st3.less suba)).trans stb
      have wipes : ∀ {F5 H5 : Hp} {ρ5 : En} {fps5 : List (List Addr)} {σ5 : L2.St}, Ok T F5 ρ5 fps5 σ5 H5 → σ5.length = σ.length → (∀ j, j ∉ own → σ5[j]? = σ[j]?) → Ok T F5 (wipeE ρ5 own) (wipeF fps5 own) (L2.wipe σ own) H5 := fun {F5 H5 ρ5 fps5 σ5} k hl hj => by
        refine (k.wipes own).slots (by rw [L2.wipe_length, hl]) fun j u ej => ?_
        rw [wipeE_get] at ej
        split at ej
        · cases ej
        · rename_i hn
          have hjl : j < ρ5.length := (List.getElem?_eq_some_iff.mp ej).1
          have hjo : j ∉ own := fun z => hn ⟨z, hjl⟩
          rw [wipe_get, if_neg fun z => hjo z.1, hj j hjo]
      have hσ2 : σ2.length = σ.length := by rw [lena, L2.wipe_length]
      have hσj : ∀ j, j ∉ own → σ2[j]? = σ[j]? := fun j hjo => by rw [outa j fun z => hjo (htg j z), wipe_get, if_neg fun z => hjo z.1]
      rcases hcase with ⟨rfl, u, ρc, he, rfl, rfl⟩ | ⟨rfl, rfl, rfl⟩
      · refine iteT' ?_
        refine hte _ _ _ ⟨F4, ρb, fpsb, _, okb, .nil, he, fun y fp F5 fpsc H5 okc ro nd fr stc => ?_⟩
        have D5 : H5 D = some (.lst acc) := stc.keep D _ D4 nDb
        have nDc : D ∉ fp ++ fpsc.flatten := fun z => by
          rcases stc.own D z with w | w
          · exact nDb w
          · rw [D4] at w; cases w
        have FD5 : F5 D = none := by
          cases z : F5 D with
          | none => rfl
          | some u =>
            rcases stc.new D (by rw [z]; simp) with w | w | w
            · exact absurd FD4 w
            · exact absurd w nDb
            · rw [D4] at w; cases w
        obtain ⟨k1, k2⟩ := okc.freeze ro nd fr
        have FD6 : addF F5 H5 fp D = none := by
          rw [addF_ne fun z => nDc (List.mem_append_left _ z)]
          exact FD5
        have stp6 := stp4.trans (stc.freeze fr)
        refine ⟨acc, D5, Nat.lt_of_le_of_lt hlen (Nat.lt_of_lt_of_le hi hcL), addF F5 H5 fp, wipeE ρc own, wipeF fpsc own, acc ++ [y], accD ++ [u.fz], zs, ?_, ?_, upd_same, ?_, fun z => nDc (List.mem_append_right _ (wipeF_sub z)), FD6, ?_, hrest, ?_⟩
        · exact (wipes k1 hσ2 hσj).other FD6 (fun z => nDc (List.mem_append_right _ (wipeF_sub z))) fun b hb => upd_ne hb
        · refine ⟨stp6.mono, fun b o eb hb => ?_, fun b hb => stp6.own b (wipeF_sub hb), stp6.new, fun b hb => ?_⟩
          · rw [upd_ne (fun z : b = D => by rw [z, hD] at eb; cases eb)]
            exact stp6.keep b o eb hb
          · rw [upd_ne (fun z : b = D => by rw [z] at hb; exact hb hD)]
            exact stp6.stay b hb
        · exact (ra.mono ((st3.mono.trans stb.mono).trans (stc.freeze fr).mono)).append (.cons k2 .nil)
        · rw [List.length_append, List.length_singleton]; omega
        · rw [List.append_assoc]; exact hys
      · refine iteF' ?_
        refine ⟨F4, wipeE ρb own, wipeF fpsb own, acc, accD, zs, wipes okb hσ2 hσj, stp4.less fun b hb => wipeF_sub hb, D4, ra.mono (st3.mono.trans stb.mono), fun z => nDb (wipeF_sub z), FD4, by omega, hrest, hys⟩
  · rintro H2 ⟨F2, ρ2, fps2, acc, accD, ysr, ok2, st2, hD2, ra, nD, FD, hlen, hl, hys⟩
    rw [List.drop_length] at hl
    cases hl
    rw [List.append_nil] at hys
    subst hys
    -- the names as they were
    have hL1 : ρ'.length = ρ1.length := by rw [ok2.ls, L2.wipe_length, ← ok1.ls]
    have back : ∃ fpsB, Ok T F2 (backE ρ' ρ1 (own ++ hideL hid)) fpsB σ H2 ∧ ∀ b ∈ fpsB.flatten, b ∈ fps2.flatten ∨ (b ∈ fps1.flatten ∧ H1 b ≠ none) := by
      have dCase : ∀ j ∈ own, ∀ o, ρ1[j]? = some (some o) → ∃ x, o = .d x := fun j hj o e => by
        have z := List.all_eq_true.mp hcD j hj
        rw [e] at z
        cases o with
        | d x => exact ⟨x, rfl⟩
        | lst _ => simp at z
        | dic _ => simp at z
        | obj _ _ => simp at z
      have slotOwn : ∀ j ∈ own, ∀ o, ρ1[j]? = some (some o) → ∃ v, σ[j]? = some (some v) ∧ RO T F2 H2 v o [] := fun j hj o e => by
        obtain ⟨x, rfl⟩ := dCase j hj o e
        obtain ⟨v, fp, h1, h2, r⟩ := ok1.slot j _ e
        cases r with
        | d r => exact ⟨v, h1, .d (r.mono st2.mono)⟩
      have slotOut : ∀ j, j ∉ own → ∀ o, ρ'[j]? = some (some o) → ∃ v fp, σ[j]? = some (some v) ∧ fps2[j]? = some fp ∧ RO T F2 H2 v o fp := fun j hj o e => by
        obtain ⟨v, fp, h1, h2, r⟩ := ok2.slot j o e
        rw [wipe_get, if_neg fun z => hj z.1] at h1
        exact ⟨v, fp, h1, h2, r⟩
      have lenσ : ρ'.length = σ.length := by rw [ok2.ls, L2.wipe_length]
      have okw := ok2.wipes own
      cases hid with
      | none =>
        refine ⟨wipeF fps2 own, ⟨ok2.sub, by rw [backE_length]; exact lenσ, by rw [wipeF_length, backE_length]; exact ok2.lf, fun j o e => ?_, okw.nd, okw.fr, okw.live⟩, fun b hb => .inl (wipeF_sub hb)⟩
        have e : (backE ρ' ρ1 (own ++ []))[j]? = some (some o) := e
        rw [List.append_nil, backE_get hL1] at e
        by_cases hj : j ∈ own
        · rw [if_pos hj] at e
          obtain ⟨v, h1, r⟩ := slotOwn j hj o e
          have hjl : j < fps2.length := by rw [ok2.lf, hL1]; exact (List.getElem?_eq_some_iff.mp e).1
          exact ⟨v, [], h1, by rw [wipeF_get, if_pos ⟨hj, hjl⟩], r⟩
        · rw [if_neg hj] at e
          obtain ⟨v, fp, h1, h2, r⟩ := slotOut j hj o e
          exact ⟨v, fp, h1, by rw [wipeF_get, if_neg fun z => hj z.1]; exact h2, r⟩
      | some i =>
        have hio : i ∉ own := by simpa [hideL] using hcH
        have fin : ∀ (fp : List Addr), (∀ a ∈ fp, a ∈ fps1.flatten ∧ H1 a ≠ none ∧ a ∉ (wipeF fps1 (own ++ [i])).flatten) → fp.Nodup →
            (∀ o, ρ1[i]? = some (some o) → ∃ v, σ[i]? = some (some v) ∧ RO T F1 H1 v o fp) → ∃ fpsB, Ok T F2 (backE ρ' ρ1 (own ++ [i])) fpsB σ H2 ∧ ∀ b ∈ fpsB.flatten, b ∈ fps2.flatten ∨ (b ∈ fps1.flatten ∧ H1 b ≠ none) := by
          intro fp hfp ndfp hs
          have hfp2 : ∀ a ∈ fp, H2 a = H1 a ∧ F2 a = none ∧ a ∉ fps2.flatten := fun a ha => by
            obtain ⟨q1, q2, q3⟩ := hfp a ha
            refine ⟨?_, ?_, fun z => ?_⟩
            · cases z : H1 a with
              | none => exact absurd z q2
              | some u => exact st2.keep a u z q3
            · cases z : F2 a with
              | none => rfl
              | some u =>
                rcases st2.new a (by rw [z]; simp) with w | w | w
                · exact absurd (ok1.fr a q1) w
                · exact absurd w q3
                · exact absurd w q2
            · rcases st2.own a z with w | w
              · exact q3 w
              · exact q2 w
          refine ⟨(wipeF fps2 own).set i fp, ⟨ok2.sub, by rw [backE_length]; exact lenσ, by rw [List.length_set, wipeF_length, backE_length]; exact ok2.lf, fun j o e => ?_, flat_set_nodup okw.nd ndfp fun a ha j g _ hg z => (hfp2 a ha).2.2 (wipeF_sub (mem_flat hg z)), fun a ha => ?_, fun a ha => ?_⟩, fun b hb => ?_⟩
          · rw [backE_get hL1] at e
            by_cases hji : i = j
            · subst hji
              rw [if_pos (by simp)] at e
              obtain ⟨v, h1, r⟩ := hs o e
              have hjl : i < (wipeF fps2 own).length := by rw [wipeF_length, ok2.lf, hL1]; exact (List.getElem?_eq_some_iff.mp e).1
              exact ⟨v, fp, h1, by rw [List.getElem?_set_self hjl], r.mono st2.mono fun a ha => (hfp2 a ha).1⟩
            · by_cases hj : j ∈ own
              · rw [if_pos (List.mem_append_left _ hj)] at e
                obtain ⟨v, h1, r⟩ := slotOwn j hj o e
                have hjl : j < fps2.length := by rw [ok2.lf, hL1]; exact (List.getElem?_eq_some_iff.mp e).1
                exact ⟨v, [], h1, by rw [List.getElem?_set_ne hji, wipeF_get, if_pos ⟨hj, hjl⟩], r⟩
              · rw [if_neg (by simp only [List.mem_append, List.mem_singleton, not_or]; exact ⟨hj, fun z => hji z.symm⟩)] at e
                obtain ⟨v, fq, h1, h2, r⟩ := slotOut j hj o e
                exact ⟨v, fq, h1, by rw [List.getElem?_set_ne hji, wipeF_get, if_neg fun z => hj z.1]; exact h2, r⟩
          · rcases flat_set_sub ha with z | z
            · exact (hfp2 a z).2.1
            · exact okw.fr a z
          · rcases flat_set_sub ha with z | z
            · rw [(hfp2 a z).1]; exact (hfp a z).2.1
            · exact okw.live a z
          · rcases flat_set_sub hb with z | z
            · exact .inr ⟨(hfp b z).1, (hfp b z).2.1⟩
            · exact .inl (wipeF_sub z)
        cases hri : ρ1[i]? with
        | none => exact fin [] (fun a ha => by simp at ha) List.nodup_nil fun o e => by rw [hri] at e; cases e
        | some oo =>
          cases oo with
          | none => exact fin [] (fun a ha => by simp at ha) List.nodup_nil fun o e => by rw [hri] at e; cases e
          | some o =>
            obtain ⟨v, fp, h1, h2, r⟩ := ok1.slot i o hri
            have ap := flat_hide_apart ok1.nd h2
            rw [List.nodup_append] at ap
            refine fin fp (fun a ha => ⟨mem_flat h2 ha, r.live a ha, fun z => ?_⟩) ap.1 fun o' e => ?_
            · rw [wipeF_app] at z
              exact ap.2.2 a ha a (wipeF_sub z) rfl
            · rw [hri] at e
              cases e
              exact ⟨v, h1, r⟩
    obtain ⟨fpsB, okB, subB⟩ := back
    have nDB : D ∉ fpsB.flatten := fun z => by
      rcases subB D z with w | w
      · exact nD w
      · exact w.2 hD
    have s2 : Stp F1 fps1.flatten H1 F2 ([D] ++ fpsB.flatten) H2 := by
      refine ⟨st2.mono, fun b o e hb => st2.keep b o e fun z => hb (sub1 b z), fun b hb => ?_, fun b hb => (st2.new b hb).imp id (.imp (sub1 b) id), st2.stay⟩
      rcases List.mem_append.mp hb with z | z
      · rw [List.mem_singleton.mp z]; exact .inr hD
      · rcases subB b z with w | w
        · exact (st2.own b w).imp (sub1 b) id
        · exact .inl w.1
    refine p (.ref D) [D] F2 fpsB H2 okB (.lst (fp := []) hD2 (ROs.of_ds ra)) ?_ (fun a ha => ?_) (st1.trans s2)
    · rw [List.singleton_append, List.nodup_cons]
      exact ⟨nDB, okB.nd⟩
    · rw [List.mem_singleton.mp ha]; exact FD
end
end IR
end
section
set_option Elab.async false
set_option linter.all false
set_option maxRecDepth 100000
set_option maxHeartbeats 4000000
/-! IStm: statements as data, what they do, their readings. -/
namespace IR
open PySem PySem.Spec L2

inductive Fl where
  | next | brk | cnt | ret (o : OV)
/-- a name's list changed in place: all its items are data -/
def mLst (i : Nat) (f : List D → Option (List D)) : M Unit := fun ρ => match ρ[i]? with
  | some (some (.lst os)) => match OV.ds os with
    | some xs => match f xs with
      | some ys => some (.ok (), ρ.set i (some (.lst (ys.map .d))))
      | none => none
    | none => none
  | _ => none
inductive LOp where
  | append | extend | reverse | clear
def LOp.f : LOp → List D → List D → Option (List D)
  | .append, [y], xs => if xs.length < sizeLine then some (xs ++ [y]) else none
  | .extend, [.lst ys], xs => if xs.length + ys.length ≤ sizeLine then some (xs ++ ys) else none
  | .reverse, [], xs => some xs.reverse
  | .clear, [], _ => some []
  | _, _, _ => none
inductive IS where
  | pass | brk | cnt | nev
  | asg (tg : Tg) (e : IE) | set (i : Nat) (e : IE) | par (i j : Nat) (a b : IE) | aug (i : Nat) (sub : Bool) (e : IE)
  | sto (i : Nat) (k e : IE) | lop (o : LOp) (i : Nat) (es : List IE) | exp (e : IE)
  | iff (t : IE) (a b : List IS) | whl (t : IE) (b : List IS) | fr (k : SrcK) (src : List IE) (tg : Tg) (b : List IS)
  | ret (e : IE) | retN

def whlM : Nat → M Bool → M Fl → M Fl
  | 0, _, _ => M.stuck
  | n + 1, t, b => M.bind t fun k => if k then M.bind b fun f => match f with
      | .next => whlM n t b
      | .cnt => whlM n t b
      | .brk => M.ret .next
      | .ret o => M.ret (.ret o)
    else M.ret .next
def forM (tg : Tg) (b : M Fl) : List D → M Fl
  | [] => M.ret .next
  | x :: xs => M.bind (putTg tg x) fun _ => M.bind b fun f => match f with
      | .next => forM tg b xs
      | .cnt => forM tg b xs
      | .brk => M.ret .next
      | .ret o => M.ret (.ret o)
def augV : Bool → D → D → M OV
  | false, .int i, .int j => M.ret (.d (.int (i + j)))
  | true, .int i, .int j => M.ret (.d (.int (i - j)))
  | _, _, _ => M.stuck
def valOf (a : EV) : M OV := match a.bor with
  | none => a.val
  | some _ => M.stuck
mutual
def evS (G : GF) (C : Nat → Option D) (N : Nat) : IS → M Fl
  | .pass => M.ret .next
  | .brk => M.ret .brk
  | .cnt => M.ret .cnt
  | .nev => M.stuck
  | .asg tg e => M.bind (M.fz (valOf (ev G C e))) fun x => M.bind (putTg tg x) fun _ => M.ret .next
  | .set i e => M.bind (valOf (ev G C e)) fun o => M.bind (mPut i o) fun _ => M.ret .next
  | .par i j a b => M.bind (valOf (ev G C a)) fun x => M.bind (valOf (ev G C b)) fun y => M.bind (mPut i x) fun _ => M.bind (mPut j y) fun _ => M.ret .next
  | .aug i s e => M.bind (mHas i) fun _ => M.bind (M.fz (valOf (ev G C e))) fun y => M.bind (mBor i) fun x => M.bind (augV s x y) fun o => M.bind (mPut i o) fun _ => M.ret .next
  | .sto i k e => M.bind (M.fz (valOf (ev G C e))) fun y => M.bind (mHas i) fun _ => M.bind (M.fz (valOf (ev G C k))) fun k => M.bind (mLst i fun xs => match k with
      | .int j => (ixN xs.length j).map fun n => xs.set n y
      | _ => none) fun _ => M.ret .next
  | .lop o i es => M.bind (mLst i some) fun _ => M.bind (seqD (evs G C es)) fun ys => M.bind (mLst i (o.f ys)) fun _ => M.ret .next
  | .exp e => M.bind (valOf (ev G C e)) fun _ => M.ret .next
  | .iff t a b => M.bind (ev G C t).tst fun k => if k then evSs G C N a else evSs G C N b
  | .whl t b => whlM N (ev G C t).tst (evSs G C N b)
  | .fr k src tg b => match (srcM k (evs G C src)).2 with
    | none => M.bind (srcM k (evs G C src)).1 (forM tg (evSs G C N b))
    | some _ => M.stuck
  | .ret e => M.bind (valOf (ev G C e)) fun o => M.ret (.ret o)
  | .retN => M.ret (.ret (.d .non))
def evSs (G : GF) (C : Nat → Option D) (N : Nat) : List IS → M Fl
  | [] => M.ret .next
  | s :: r => M.bind (evS G C N s) fun f => match f with
    | .next => evSs G C N r
    | f => M.ret f
end

/-! ### readings -/
/-- the first name's value, where it is not to be stored anew -/
def PinOk (pn : Option V) (σ : L2.St) : Prop := ∀ v, pn = some v → σ[0]? = some (some v)
theorem PinOk.set {pn : Option V} {σ : L2.St} {i : Nat} {w : Option V} (h : PinOk pn σ) (hi : pn = none ∨ i ≠ 0) : PinOk pn (σ.set i w) := fun v e => by
  rcases hi with hi | hi
  · rw [hi] at e; cases e
  · rw [List.getElem?_set_ne hi]; exact h v e
def PostS (T : Tbl) (pn : Option V) (W : XK) (F : Hp) (O : List Addr) (H : Hp) (Z : Ends) : Res Fl × En → Prop
  | (.ok .next, ρ') => ∀ F' fps' σ' H', Ok T F' ρ' fps' σ' H' → PinOk pn σ' → Stp F O H F' fps'.flatten H' → Z.nx σ' H'
  | (.ok .brk, ρ') => ∀ F' fps' σ' H', Ok T F' ρ' fps' σ' H' → PinOk pn σ' → Stp F O H F' fps'.flatten H' → Z.bk σ' H'
  | (.ok .cnt, ρ') => ∀ F' fps' σ' H', Ok T F' ρ' fps' σ' H' → PinOk pn σ' → Stp F O H F' fps'.flatten H' → Z.ct σ' H'
  | (.ok (.ret o), ρ') => ∀ v fp F' fps' σ' H', Ok T F' ρ' fps' σ' H' → PinOk pn σ' → RO T F' H' v o fp → (fp ++ fps'.flatten).Nodup → (∀ a ∈ fp, F' a = none) → Stp F O H F' (fp ++ fps'.flatten) H' → Z.rt v H'
  | (.err x, ρ') => ∀ cls d F' fps' σ' H', Ok T F' ρ' fps' σ' H' → PinOk pn σ' → RX T F' H' x cls d → Stp F O H F' fps'.flatten H' → W cls d H'
def tS (T : Tbl) (pn : Option V) (W : XK) (f : M Fl) : TS := fun Z σ H => ∃ F ρ fps r, Ok T F ρ fps σ H ∧ PinOk pn σ ∧ f ρ = some r ∧ PostS T pn W F fps.flatten H Z r
section
variable {X : Cx} {T : Tbl} {pn : Option V} {W : XK} {σ : L2.St} {H : Hp} {Z : Ends}
theorem PostS.imp {F F0 : Hp} {O O0 : List Addr} {H0 : Hp} : ∀ {r : Res Fl × En}, PostS T pn W F0 O0 H0 Z r → Stp F0 O0 H0 F O H → PostS T pn W F O H Z r
  | (.ok .next, ρ'), p, s => fun F' fps' σ' H' h1 hp h2 => p F' fps' σ' H' h1 hp (s.trans h2)
  | (.ok .brk, ρ'), p, s => fun F' fps' σ' H' h1 hp h2 => p F' fps' σ' H' h1 hp (s.trans h2)
  | (.ok .cnt, ρ'), p, s => fun F' fps' σ' H' h1 hp h2 => p F' fps' σ' H' h1 hp (s.trans h2)
  | (.ok (.ret o), ρ'), p, s => fun v fp F' fps' σ' H' h1 hp h2 h3 h4 h5 => p v fp F' fps' σ' H' h1 hp h2 h3 h4 (s.trans h5)
  | (.err x, ρ'), p, s => fun cls d F' fps' σ' H' h1 hp h2 h3 => p cls d F' fps' σ' H' h1 hp h2 (s.trans h3)
/-- the state, and what is left to do -/
def tSX (T : Tbl) (pn : Option V) (W : XK) (vs : List V) (xs : List D) (f : M Fl) (Z : Ends) (σ : L2.St) (H : Hp) : Prop := ∃ F ρ fps r, Ok T F ρ fps σ H ∧ PinOk pn σ ∧ RDs T F vs xs ∧ f ρ = some r ∧ PostS T pn W F fps.flatten H Z r
theorem tS.x {f : M Fl} (h : tS T pn W f Z σ H) : tSX T pn W [] [] f Z σ H := by
  obtain ⟨F, ρ, fps, r, ok, hp, e, p⟩ := h
  exact ⟨F, ρ, fps, r, ok, hp, .nil, e, p⟩
theorem tSX.s {vs : List V} {xs : List D} {f : M Fl} (h : tSX T pn W vs xs f Z σ H) : tS T pn W f Z σ H := by
  obtain ⟨F, ρ, fps, r, ok, hp, _, e, p⟩ := h
  exact ⟨F, ρ, fps, r, ok, hp, e, p⟩
theorem valOf_rd {a : EV} {Q : VK} (h : tE T W (valOf a) σ H Q) : a.bor = none ∧ tE T W a.val σ H Q := by
  cases hb : a.bor with
  | none =>
    unfold valOf at h
    rw [hb] at h
    exact ⟨rfl, h⟩
  | some i =>
    unfold valOf at h
    rw [hb] at h
    exact (tX_stuck h).elim
/-- a value, as it comes, then a statement's rest -/
theorem tS_val {m : M OV} {k : OV → M Fl} (h : tS T pn W (M.bind m k) Z σ H) : tE T W m σ H fun v H1 => ∃ F ρ fps fp o r, Ok T F ρ fps σ H1 ∧ PinOk pn σ ∧ RO T F H1 v o fp ∧ (fp ++ fps.flatten).Nodup ∧ (∀ a ∈ fp, F a = none) ∧ k o ρ = some r ∧ PostS T pn W F (fp ++ fps.flatten) H1 Z r := by
  obtain ⟨F, ρ, fps, r, ok, hp, e, p⟩ := h
  rcases bind_cases e with ⟨o, ρ1, e1, e2⟩ | ⟨x, ρ1, e1, rfl⟩
  · exact ⟨F, ρ, fps, _, ok, .nil, e1, fun v fp F' fps' H' h1 h2 h3 h4 h5 => ⟨F', ρ1, fps', fp, o, r, h1, hp, h2, h3, h4, e2, p.imp h5⟩⟩
  · exact ⟨F, ρ, fps, _, ok, .nil, e1, fun cls d F' fps' H' h1 h2 h3 => p cls d F' fps' σ H' h1 hp h2 h3⟩
theorem tS_fz {vs : List V} {xs : List D} {m : M OV} {k : D → M Fl} (h : tSX T pn W vs xs (M.bind (M.fz m) k) Z σ H) : tE T W m σ H fun v H1 => ∃ x, tSX T pn W (v :: vs) (x :: xs) (k x) Z σ H1 := by
  obtain ⟨F, ρ, fps, r, ok, hp, rv, e, p⟩ := h
  rcases bind_cases e with ⟨x, ρ1, e1, e2⟩ | ⟨x, ρ1, e1, rfl⟩
  · rcases bind_cases e1 with ⟨o, ρ2, e3, e4⟩ | ⟨y, ρ2, e3, e4⟩
    · cases e4
      refine ⟨F, ρ, fps, _, ok, .nil, e3, fun v fp F' fps' H' h1 h2 h3 h4 h5 => ?_⟩
      obtain ⟨k1, k2⟩ := h1.freeze h2 h3 h4
      have st := h5.freeze h4
      exact ⟨o.fz, _, ρ1, fps', r, k1, hp, .cons k2 (rv.mono st.mono), e2, p.imp st⟩
    · cases e4
  · rcases bind_cases e1 with ⟨o, ρ2, e3, e4⟩ | ⟨y, ρ2, e3, e4⟩
    · cases e4
    · cases e4
      exact ⟨F, ρ, fps, _, ok, .nil, e3, fun cls d F' fps' H' h1 h2 h3 => p cls d F' fps' σ H' h1 hp h2 h3⟩
theorem tS_tst {m : M Bool} {k : Bool → M Fl} (h : tS T pn W (M.bind m k) Z σ H) : tT T W [] [] m σ H fun b H1 => tS T pn W (k b) Z σ H1 := by
  obtain ⟨F, ρ, fps, r, ok, hp, e, p⟩ := h
  rcases bind_cases e with ⟨b, ρ1, e1, e2⟩ | ⟨x, ρ1, e1, rfl⟩
  · exact ⟨F, ρ, fps, _, ok, .nil, e1, fun F' fps' H' h1 h2 => ⟨F', ρ1, fps', r, h1, hp, e2, p.imp h2⟩⟩
  · exact ⟨F, ρ, fps, _, ok, .nil, e1, fun cls d F' fps' H' h1 h2 h3 => p cls d F' fps' σ H' h1 hp h2 h3⟩
theorem tS_next {vs : List V} {xs : List D} (h : tSX T pn W vs xs (M.ret .next) Z σ H) : Z.nx σ H := by
  obtain ⟨F, ρ, fps, r, ok, hp, _, e, p⟩ := h
  cases e
  exact p F fps σ H ok hp Stp.refl
theorem mPut_cases {i : Nat} {o : OV} {α : Type} {k : Unit → M α} {ρ : En} {r : Res α × En} (h : M.bind (mPut i o) k ρ = some r) : i < ρ.length ∧ k () (ρ.set i (some o)) = some r := by
  rcases bind_cases h with ⟨x, ρ1, e1, e2⟩ | ⟨x, ρ1, e1, rfl⟩
  · unfold mPut at e1
    split at e1
    · rename_i hi
      cases e1
      exact ⟨hi, e2⟩
    · cases e1
  · unfold mPut at e1
    split at e1 <;> cases e1
/-- a value stored -/
theorem store_step {F : Hp} {ρ : En} {fps : List (List Addr)} {i : Nat} {v : V} {o : OV} {fp : List Addr} (ok : Ok T F ρ fps σ H) (r : RO T F H v o fp) (nd : (fp ++ fps.flatten).Nodup) (fr : ∀ a ∈ fp, F a = none) (hi : i < ρ.length) :
    Ok T F (ρ.set i (some o)) (fps.set i fp) (σ.set i (some v)) H ∧ Stp F (fp ++ fps.flatten) H F (fps.set i fp).flatten H :=
  ⟨ok.store r nd fr hi, Stp.refl.less fun b hb => by
    rcases flat_set_sub hb with z | z
    · exact List.mem_append_left _ z
    · exact List.mem_append_right _ z⟩
theorem PinOk.tg {σ' : L2.St} {js : List Nat} (h : PinOk pn σ) (hz : pn = none ∨ 0 ∉ js) (c : ∀ j, j ∉ js → σ'[j]? = σ[j]?) : PinOk pn σ' := fun v e => by
  rcases hz with hz | hz
  · rw [hz] at e; cases e
  · rw [c 0 hz]; exact h v e
theorem rd_asg {tg : Tg} {a : EV} (hz : pn = none ∨ 0 ∉ tg.slots) (h : tS T pn W (M.bind (M.fz (valOf a)) fun x => M.bind (putTg tg x) fun _ => M.ret .next) Z σ H) : tAsg (rdV T W a) (gTg T.K tg) Z σ H := by
  have q := tS_fz h.x
  obtain ⟨hb, q⟩ := valOf_rd q
  unfold tAsg rdV
  rw [hb]
  refine q.mono fun v H1 ⟨x, F, ρ, fps, r, ok, hp, rv, e, p⟩ => ?_
  cases rv with
  | cons rv _ =>
    rcases bind_cases e with ⟨_, ρ1, e1, e2⟩ | ⟨y, ρ1, e1, e2⟩
    · cases e2
      exact putTg_rd tg ok rv e1 fun σ' fps' k s c d _ => p F fps' σ' H1 k (hp.tg hz c) (Stp.refl.less s)
    · exact (putTg_noerr (T := T) (H := H) tg e1).elim
theorem rd_set {i : Nat} {a : EV} (hz : pn = none ∨ i ≠ 0) (h : tS T pn W (M.bind (valOf a) fun o => M.bind (mPut i o) fun _ => M.ret .next) Z σ H) : tAsg (rdV T W a) (gName i) Z σ H := by
  have q := tS_val h
  obtain ⟨hb, q⟩ := valOf_rd q
  unfold tAsg rdV
  rw [hb]
  refine q.mono fun v H1 ⟨F, ρ, fps, fp, o, r, ok, hp, ro, nd, fr, e, p⟩ => ?_
  obtain ⟨hi, e2⟩ := mPut_cases e
  cases e2
  obtain ⟨k, s⟩ := store_step ok ro nd fr hi
  exact p F _ _ H1 k (hp.set hz) s
theorem rd_ret {a : EV} (h : tS T pn W (M.bind (valOf a) fun o => M.ret (.ret o)) Z σ H) : tRet (rdV T W a) Z σ H := by
  have q := tS_val h
  obtain ⟨hb, q⟩ := valOf_rd q
  unfold tRet rdV
  rw [hb]
  refine q.mono fun v H1 ⟨F, ρ, fps, fp, o, r, ok, hp, ro, nd, fr, e, p⟩ => ?_
  cases e
  exact p v fp F fps σ H1 ok hp ro nd fr Stp.refl
theorem rd_exp {a : EV} (h : tS T pn W (M.bind (valOf a) fun _ => M.ret .next) Z σ H) : tDrop (rdV T W a) Z σ H := by
  have q := tS_val h
  obtain ⟨hb, q⟩ := valOf_rd q
  unfold tDrop rdV
  rw [hb]
  refine q.mono fun v H1 ⟨F, ρ, fps, fp, o, r, ok, hp, ro, nd, fr, e, p⟩ => ?_
  cases e
  exact p F fps σ H1 ok hp (Stp.refl.less fun b hb => List.mem_append_right _ hb)
theorem rd_iff {t : EV} {a b : M Fl} (h : tS T pn W (M.bind t.tst fun k => if k then a else b) Z σ H) : tIfS (tT T W [] [] t.tst) (tS T pn W a) (tS T pn W b) Z σ H :=
  (tS_tst h).mono fun k H1 q => by
    cases k with
    | true => exact iteT' q
    | false => exact iteF' q
theorem rd_seq {a b : M Fl} (h : tS T pn W (M.bind a fun f => match f with | .next => b | f => M.ret f) Z σ H) : tSeq (tS T pn W a) (tS T pn W b) Z σ H := by
  obtain ⟨F, ρ, fps, r, ok, hp, e, p⟩ := h
  rcases bind_cases e with ⟨f, ρ1, e1, e2⟩ | ⟨x, ρ1, e1, rfl⟩
  · refine ⟨F, ρ, fps, _, ok, hp, e1, ?_⟩
    cases f with
    | next => exact fun F' fps' σ' H' h1 hp h2 => ⟨F', ρ1, fps', r, h1, hp, e2, p.imp h2⟩
    | brk => cases e2; exact p
    | cnt => cases e2; exact p
    | ret o => cases e2; exact p
  · exact ⟨F, ρ, fps, _, ok, hp, e1, p⟩

/-! ### two names at once; a name changed by a number -/
theorem pend_step {F F1 H1 : Hp} {O O1 : List Addr} {v : V} {o : OV} {fp : List Addr} (r : RO T F H v o fp) (nd : ∀ a ∈ fp, a ∉ O) (fr : ∀ a ∈ fp, F a = none) (s : Stp F O H F1 O1 H1) :
    RO T F1 H1 v o fp ∧ (∀ a ∈ fp, a ∉ O1) ∧ ∀ a ∈ fp, F1 a = none := by
  refine ⟨r.mono s.mono fun a ha => ?_, fun a ha z => ?_, fun a ha => ?_⟩
  · have l := r.live a ha
    cases q : H a with
    | none => exact absurd q l
    | some u => exact s.keep a u q (nd a ha)
  · rcases s.own a z with w | w
    · exact nd a ha w
    · exact r.live a ha w
  · cases q : F1 a with
    | none => rfl
    | some u =>
      rcases s.new a (by rw [q]; simp) with w | w | w
      · exact absurd (fr a ha) w
      · exact absurd w (nd a ha)
      · exact absurd w (r.live a ha)
theorem rd_par {i j : Nat} {a b : EV} (hij : i ≠ j) (hz : pn = none ∨ (i ≠ 0 ∧ j ≠ 0)) (h : tS T pn W (M.bind (valOf a) fun x => M.bind (valOf b) fun y => M.bind (mPut i x) fun _ => M.bind (mPut j y) fun _ => M.ret .next) Z σ H) : tPar i j (tArgs T W [a, b]) Z σ H := by
  have q := tS_val h
  obtain ⟨hb, q⟩ := valOf_rd q
  show rdV T W a σ H fun v H1 => rdV T W b σ H1 _
  unfold rdV
  rw [hb]
  refine q.mono fun v H1 ⟨F, ρ, fps, fp, x, r, ok, hp, ro, nd, fr, e, p⟩ => ?_
  rw [List.nodup_append] at nd
  have hb2 : b.bor = none := by
    cases hb : b.bor with
    | none => rfl
    | some k =>
      unfold valOf at e
      rw [hb] at e
      cases e
  rw [hb2]
  have vb : valOf b = b.val := by unfold valOf; rw [hb2]
  rw [vb] at e
  rcases bind_cases e with ⟨y, ρ1, e1, e2⟩ | ⟨y, ρ1, e1, rfl⟩
  · refine ⟨F, ρ, fps, _, ok, .nil, e1, fun w fq F1 fps1 H2 ok1 ro1 nd1 fr1 st => ?_⟩
    obtain ⟨g1, g2, g3⟩ := pend_step ro (fun a ha z => nd.2.2 a ha a z rfl) fr st
    obtain ⟨hi, e3⟩ := mPut_cases e2
    obtain ⟨hj, e4⟩ := mPut_cases e3
    cases e4
    refine ⟨v, w, rfl, ?_⟩
    rw [List.nodup_append] at nd1
    have k1 : Ok T F1 (ρ1.set i (some x)) (fps1.set i fp) (σ.set i (some v)) H2 := ok1.store g1 (by
      rw [List.nodup_append]
      exact ⟨nd.1, nd1.2.1, fun a ha b hb z => g2 a ha (List.mem_append_right _ (z ▸ hb))⟩) g3 hi
    have k2 := k1.store (i := j) ro1 (by
      rw [List.nodup_append]
      refine ⟨nd1.1, k1.nd, fun a ha b hb z => ?_⟩
      subst z
      rcases flat_set_sub hb with z | z
      · exact g2 a z (List.mem_append_left _ ha)
      · exact nd1.2.2 a ha a z rfl) fr1 hj
    refine p F1 _ _ H2 k2 ((hp.set (hz.imp id And.left)).set (hz.imp id And.right)) ⟨st.mono, fun b u q hb => st.keep b u q fun z => hb (List.mem_append_right _ z), fun b hb => ?_, fun b hb => (st.new b hb).imp id (.imp (List.mem_append_right _) id), st.stay⟩
    rcases flat_set_sub hb with z | z
    · exact (st.own b (List.mem_append_left _ z)).imp (List.mem_append_right _) id
    · rcases flat_set_sub z with z | z
      · exact .inl (List.mem_append_left _ z)
      · exact (st.own b (List.mem_append_right _ z)).imp (List.mem_append_right _) id
  · refine ⟨F, ρ, fps, _, ok, .nil, e1, fun cls d F' fps' H' h1 h2 h3 => p cls d F' fps' σ H' h1 hp h2 ?_⟩
    exact ⟨h3.mono, fun b u q hb => h3.keep b u q fun z => hb (List.mem_append_right _ z), fun b hb => (h3.own b hb).imp (List.mem_append_right _) id, fun b hb => (h3.new b hb).imp id (.imp (List.mem_append_right _) id), h3.stay⟩
def ipI2 (s : Bool) : TIp := fun x y H Q => ∃ i j, x = .int i ∧ y = .int j ∧ Q (.int (if s then i - j else i + j)) H
theorem rd_aug {i : Nat} {s : Bool} {a : EV} (hz : pn = none ∨ i ≠ 0) (h : tS T pn W (M.bind (mHas i) fun _ => M.bind (M.fz (valOf a)) fun y => M.bind (mBor i) fun x => M.bind (augV s x y) fun o => M.bind (mPut i o) fun _ => M.ret .next) Z σ H) : tAug i (rdV T W a) (ipI2 s) Z σ H := by
  obtain ⟨F, ρ, fps, r, ok, hp, e, p⟩ := h
  obtain ⟨⟨o, eo⟩, e⟩ := mHas_cases e
  obtain ⟨v, fp, ev, _, _⟩ := ok.slot i o eo
  have q := tS_fz (vs := []) (xs := []) (T := T) (W := W) (Z := Z) (σ := σ) (H := H) ⟨F, ρ, fps, r, ok, hp, .nil, e, p⟩
  obtain ⟨hb, q⟩ := valOf_rd q
  refine ⟨v, ev, ?_⟩
  unfold rdV
  rw [hb]
  refine q.mono fun w H1 ⟨y, F, ρ, fps, r, ok, hp, rv, e, p⟩ => ?_
  obtain ⟨o, x, e1, e2, e3⟩ := mBor_cases e
  obtain ⟨v', fp, ev', e2', ro⟩ := ok.slot i o e1
  rw [ev] at ev'
  cases ev'
  have rb := ro.flat e2
  cases rv with
  | cons rv _ =>
    rcases bind_cases e3 with ⟨u, ρ1, f1, f2⟩ | ⟨z, ρ1, f1, f2⟩
    · obtain ⟨hi, f3⟩ := mPut_cases f2
      cases f3
      cases s <;> cases x <;> cases y <;> simp only [augV] at f1 <;> cases f1
      all_goals
        cases rv
        refine ⟨_, _, rb.int_inv, rfl, ?_⟩
        exact p F _ _ H1 (ok.store (.d (.int _)) (by simpa using ok.nd) (by simp) hi) (hp.set hz) (Stp.refl.less fun b hb => flat_hide_sub hb)
    · cases s <;> cases x <;> cases y <;> simp only [augV] at f1 <;> cases f1

/-! ### lists changed in place -/
theorem mLst_cases {i : Nat} {f : List D → Option (List D)} {α : Type} {k : Unit → M α} {ρ : En} {r : Res α × En} (h : M.bind (mLst i f) k ρ = some r) :
    ∃ os xs ys, ρ[i]? = some (some (.lst os)) ∧ OV.ds os = some xs ∧ f xs = some ys ∧ k () (ρ.set i (some (.lst (ys.map .d)))) = some r := by
  have key : ∀ {q}, mLst i f ρ = some q → ∃ os xs ys, ρ[i]? = some (some (.lst os)) ∧ OV.ds os = some xs ∧ f xs = some ys ∧ q = (.ok (), ρ.set i (some (.lst (ys.map .d)))) := by
    intro q hq
    unfold mLst at hq
    split at hq
    · rename_i os ho
      split at hq
      · rename_i xs hx
        split at hq
        · rename_i ys hy
          cases hq
          exact ⟨os, xs, ys, ho, hx, hy, rfl⟩
        · cases hq
      · cases hq
    · cases hq
  rcases bind_cases h with ⟨x, ρ1, e1, e2⟩ | ⟨x, ρ1, e1, rfl⟩
  · obtain ⟨os, xs, ys, a, b, c, d⟩ := key e1
    cases d
    exact ⟨os, xs, ys, a, b, c, e2⟩
  · obtain ⟨os, xs, ys, a, b, c, d⟩ := key e1
    cases d
/-- the list that a name owns is another one -/
theorem lst_step {F : Hp} {ρ : En} {fps : List (List Addr)} {i : Nat} {os : List OV} {xs ys : List D} (ok : Ok T F ρ fps σ H) (hi : ρ[i]? = some (some (.lst os))) (hx : OV.ds os = some xs) :
    ∃ a vs, σ[i]? = some (some (.ref a)) ∧ H a = some (.lst vs) ∧ RDs T F vs xs ∧ ∀ ws, RDs T F ws ys → Ok T F (ρ.set i (some (.lst (ys.map .d)))) (fps.set i [a]) σ (upd H a (.lst ws)) ∧ Stp F fps.flatten H F (fps.set i [a]).flatten (upd H a (.lst ws)) := by
  obtain ⟨v, fp, ev, ef, ro⟩ := ok.slot i _ hi
  have hl : i < ρ.length := (List.getElem?_eq_some_iff.mp hi).1
  cases ro with
  | @lst a vs _ fq hH rs =>
    have ha : a ∈ fps.flatten := mem_flat ef List.mem_cons_self
    have hF : F a = none := ok.fr a ha
    have s1 : Same F (upd H a (.lst vs)) := fun b o e => by
      rw [upd_ne (ne_of_none e hF)]
      exact ok.sub b o e
    refine ⟨a, vs, ev, hH, rs.ds hx, fun ws hw => ⟨?_, ?_⟩⟩
    · refine ok.turn hl (Same.refl F) (fun b o e => by rw [upd_ne (ne_of_none e hF)]; exact ok.sub b o e) ⟨_, ev, ro_newL hw⟩ (fun j g hj hg c hc => ⟨upd_ne fun z => ?_, ok.fr c (mem_flat hg hc)⟩) (by simp) (fun c hc j g hj hg z => ?_) (fun c hc => by rw [List.mem_singleton.mp hc]; exact hF)
      · subst z
        exact flat_apart ok.nd hg ef hj hc List.mem_cons_self
      · rw [List.mem_singleton.mp hc] at z
        exact flat_apart ok.nd hg ef hj z List.mem_cons_self
    · refine ⟨Same.refl _, fun b o e hb => by rw [upd_ne fun z : b = a => hb (by rw [z]; exact ha)]; exact e, fun b hb => ?_, fun b hb => .inl hb, fun b hb => ?_⟩
      · rcases flat_set_sub hb with z | z
        · rw [List.mem_singleton.mp z]; exact .inl ha
        · exact .inl z
      · by_cases hba : b = a
        · rw [hba, upd_same]; simp
        · rw [upd_ne hba]; exact hb
theorem rd_sto {i : Nat} {k a : EV} (h : tS T pn W (M.bind (M.fz (valOf a)) fun y => M.bind (mHas i) fun _ => M.bind (M.fz (valOf k)) fun k => M.bind (mLst i fun xs => match k with
      | .int j => (ixN xs.length j).map fun n => xs.set n y
      | _ => none) fun _ => M.ret .next) Z σ H) : tAsg (rdV T W a) (gSub (tVar i) (rdV T W k) rSetL) Z σ H := by
  have q := tS_fz h.x
  obtain ⟨hb, q⟩ := valOf_rd q
  unfold tAsg rdV
  rw [hb]
  refine q.mono fun v H1 ⟨y, q⟩ => ?_
  obtain ⟨F, ρ, fps, r, ok, hp, rv, e, p⟩ := q
  obtain ⟨⟨o, eo⟩, e⟩ := mHas_cases e
  obtain ⟨u, fp, eu, _, _⟩ := ok.slot i o eo
  refine ⟨u, eu, ?_⟩
  have q2 := tS_fz (vs := [v]) (xs := [y]) (T := T) (W := W) (Z := Z) (σ := σ) (H := H1) ⟨F, ρ, fps, r, ok, hp, rv, e, p⟩
  obtain ⟨hk, q2⟩ := valOf_rd q2
  rw [hk]
  refine q2.mono fun kv H2 ⟨kd, F, ρ, fps, r, ok, hp, rv, e, p⟩ => ?_
  obtain ⟨os, xs, ys, a1, a2, a3, a4⟩ := mLst_cases e
  cases a4
  cases kd <;> simp only [reduceCtorEq] at a3
  rename_i j
  cases hn : ixN xs.length j with
  | none => rw [hn] at a3; cases a3
  | some n =>
    rw [hn] at a3
    obtain rfl := (Option.some.inj a3).symm
    cases rv with
    | cons rk rv => cases rv with
      | cons rv _ =>
        obtain ⟨a, vs, b1, b2, b3, b4⟩ := lst_step (ys := xs.set n y) ok a1 a2
        rw [eu] at b1
        cases b1
        cases rk
        obtain ⟨c1, c2⟩ := b4 (vs.set n v) (b3.set rv n)
        exact ⟨a, vs, j, n, rfl, rfl, b2, by rw [b3.length]; exact hn, p F _ σ _ c1 hp c2⟩
/-- a list's own method -/
def rLop : LOp → V → List V → Hp → VK → Prop
  | .append => rAppend
  | .extend => rExtend
  | .reverse => rReverse
  | .clear => rClear
theorem rd_lop {o : LOp} {i : Nat} {as : List EV} (h : tS T pn W (M.bind (mLst i some) fun _ => M.bind (seqD as) fun ys => M.bind (mLst i (o.f ys)) fun _ => M.ret .next) Z σ H) :
    ∃ a, σ[i]? = some (some (.ref a)) ∧ (∃ vs, H a = some (.lst vs)) ∧ tArgs T W as σ H fun ws H1 => rLop o (.ref a) ws H1 fun _ H2 => Z.nx σ H2 := by
  obtain ⟨F, ρ, fps, r, ok, hp, e, p⟩ := h
  obtain ⟨os, xs, ys, a1, a2, a3, a4⟩ := mLst_cases e
  cases a3
  obtain ⟨a, vs, b1, b2, b3, b4⟩ := lst_step (ys := xs) ok a1 a2
  refine ⟨a, b1, ⟨vs, b2⟩, ?_⟩
  -- the list as it is, its items all data
  obtain ⟨c1, c2⟩ := b4 vs b3
  have same : upd H a (.lst vs) = H := by
    funext b
    by_cases hb : b = a
    · rw [hb, upd_same, b2]
    · rw [upd_ne hb]
  rw [same] at c1 c2
  refine seqD_args (vs := []) (xs := []) ?_
  rcases bind_cases a4 with ⟨zs, ρ1, e1, e2⟩ | ⟨y, ρ1, e1, rfl⟩
  · refine ⟨F, _, _, _, c1, .nil, e1, fun ws F1 fps1 H1 ok1 rw1 st => ?_⟩
    obtain ⟨os, xs1, ys, d1, d2, d3, d4⟩ := mLst_cases e2
    cases d4
    obtain ⟨a', vs1, f1, f2, f3, f4⟩ := lst_step (ys := ys) ok1 d1 d2
    rw [b1] at f1
    cases f1
    have done : ∀ us, RDs T F1 us ys → Z.nx σ (upd H1 a (.lst us)) := fun us hu => by
      obtain ⟨g1, g2⟩ := f4 us hu
      exact p F1 _ σ _ g1 hp ((c2.trans st).trans g2)
    cases o with
    | append =>
      match zs, rw1, d3 with
      | [y], .cons ry .nil, d3 =>
        simp only [LOp.f] at d3
        split at d3
        · rename_i hl
          cases d3
          exact ⟨a, vs1, _, rfl, rfl, f2, by rw [f3.length]; exact hl, done _ (f3.append (.cons ry .nil))⟩
        · cases d3
    | extend =>
      match zs, rw1, d3 with
      | [.lst yl], .cons (.lst hy ry) .nil, d3 =>
        simp only [LOp.f] at d3
        split at d3
        · rename_i hl
          cases d3
          exact ⟨a, _, vs1, _, rfl, rfl, f2, ok1.sub _ _ hy, by rw [f3.length, ry.length]; exact hl, done _ (f3.append ry)⟩
        · cases d3
    | reverse =>
      match zs, rw1, d3 with
      | [], .nil, d3 =>
        cases d3
        exact ⟨a, vs1, rfl, rfl, f2, done _ f3.reverse⟩
    | clear =>
      match zs, rw1, d3 with
      | [], .nil, d3 =>
        cases d3
        exact ⟨a, vs1, rfl, rfl, f2, done _ .nil⟩
  · exact ⟨F, _, _, _, c1, .nil, e1, fun cls d F' fps' H' h1 h2 h3 => p cls d F' fps' σ H' h1 hp h2 (c2.trans h3)⟩

/-! ### loops -/
theorem rd_whl {t : EV} {b : M Fl} {n : Nat} (h : tS T pn W (whlM n t.tst b) Z σ H) : tWhile (tT T W [] [] t.tst) (tS T pn W b) Z σ H := by
  refine ⟨fun m σ H => tS T pn W (whlM m t.tst b) Z σ H, ⟨n, h⟩, fun m σ H hm => ?_⟩
  cases m with
  | zero =>
    obtain ⟨F, ρ, fps, r, ok, hp, e, p⟩ := hm
    cases e
  | succ m =>
    refine (tS_tst (k := fun k => if k then M.bind b fun f => match f with
      | .next => whlM m t.tst b
      | .cnt => whlM m t.tst b
      | .brk => M.ret .next
      | .ret o => M.ret (.ret o)
    else M.ret .next) hm).mono fun k H1 q => ?_
    cases k with
    | false => exact iteF' (tS_next q.x)
    | true =>
      refine iteT' ⟨tS T pn W (whlM m t.tst b) Z, fun σ' H' q' => ⟨m, Nat.lt_succ_self m, q'⟩, ?_⟩
      obtain ⟨F, ρ, fps, r, ok, hp, e, p⟩ := q
      have e : M.bind b (fun f => match f with
        | .next => whlM m t.tst b
        | .cnt => whlM m t.tst b
        | .brk => M.ret .next
        | .ret o => M.ret (.ret o)) ρ = some r := e
      rcases bind_cases e with ⟨f, ρ1, e1, e2⟩ | ⟨x, ρ1, e1, rfl⟩
      · refine ⟨F, ρ, fps, _, ok, hp, e1, ?_⟩
        cases f with
        | next => exact fun F' fps' σ' H' h1 hp h2 => ⟨F', ρ1, fps', r, h1, hp, e2, p.imp h2⟩
        | cnt => exact fun F' fps' σ' H' h1 hp h2 => ⟨F', ρ1, fps', r, h1, hp, e2, p.imp h2⟩
        | brk => cases e2; exact p
        | ret o => cases e2; exact p
      · exact ⟨F, ρ, fps, _, ok, hp, e1, p⟩
theorem rd_for {src : M (List D)} {wi : TI} {tg : Tg} {b : M Fl} (hz : pn = none ∨ 0 ∉ tg.slots) (hsrc : ∀ σ H R, tI T W none src σ H R → wi σ H R) (h : tS T pn W (M.bind src (forM tg b)) Z σ H) : tFor wi (gTg T.K tg) (tS T pn W b) Z σ H := by
  obtain ⟨F, ρ, fps, r, ok, hp, e, p⟩ := h
  rcases bind_cases e with ⟨items, ρ1, e1, e2⟩ | ⟨x, ρ1, e1, rfl⟩
  case inr => exact hsrc _ _ _ ⟨F, ρ, fps, _, ok, e1, fun cls d F' fps' H' h1 h2 h3 => p cls d F' fps' σ H' h1 hp h2 h3⟩
  refine hsrc _ _ _ ⟨F, ρ, fps, _, ok, e1, fun J F1 fps1 H1 ok1 st1 wk => ?_⟩
  obtain ⟨G, Y, wlk, hG, hY⟩ := wk
  refine for_it wlk (fun i σ2 H2 => ∃ F2 ρ2 fps2, Ok T F2 ρ2 fps2 σ2 H2 ∧ PinOk pn σ2 ∧ Stp F1 fps1.flatten H1 F2 fps2.flatten H2 ∧ forM tg b (items.drop i) ρ2 = some r) ?_ ?_ ?_ ?_
  · exact ⟨F1, ρ1, fps1, ok1, hp, Stp.refl, e2⟩
  · rintro i σ2 H2 _ ⟨F2, ρ2, fps2, _, _, s, _⟩
    exact hG H2 s.keep
  · rintro i x σ2 H2 H3 hi ⟨F2, ρ2, fps2, ok2, hp2, st2, hl⟩ hy
    rw [List.drop_eq_getElem_cons hi] at hl
    obtain ⟨F3, ok3, rx, st3, k3, f3⟩ := hY i x H2 H3 items[i] ρ2 fps2 σ2 F2 (List.getElem?_eq_getElem hi) st2.keep ok2 st2.mono hy
    unfold forM at hl
    rcases bind_cases hl with ⟨_, ρa, ha, hb⟩ | ⟨y, ρa, ha, _⟩
    case inr => exact (putTg_noerr (T := T) (H := H) tg ha).elim
    refine putTg_rd tg ok3 rx ha fun σ4 fpsa oka suba outa lena _ => ?_
    have hp4 : PinOk pn σ4 := hp2.tg hz outa
    have st4 : Stp F1 fps1.flatten H1 F3 fpsa.flatten H3 := st2.trans (st3.less suba)
    rcases bind_cases hb with ⟨f, ρb, hc, hd⟩ | ⟨y, ρb, hc, rfl⟩
    · refine ⟨F3, ρa, fpsa, _, oka, hp4, hc, ?_⟩
      cases f with
      | next => exact fun F' fps' σ' H' h1 hp h2 => ⟨F', ρb, fps', h1, hp, st4.trans h2, hd⟩
      | cnt => exact fun F' fps' σ' H' h1 hp h2 => ⟨F', ρb, fps', h1, hp, st4.trans h2, hd⟩
      | brk =>
        cases hd
        exact fun F' fps' σ' H' h1 hp h2 => p F' fps' σ' H' h1 hp ((st1.trans st4).trans h2)
      | ret o =>
        cases hd
        exact fun v fp F' fps' σ' H' h1 hp h2 h3 h4 h5 => p v fp F' fps' σ' H' h1 hp h2 h3 h4 ((st1.trans st4).trans h5)
    · exact ⟨F3, ρa, fpsa, _, oka, hp4, hc, fun cls d F' fps' σ' H' h1 hp h2 h3 => p cls d F' fps' σ' H' h1 hp h2 ((st1.trans st4).trans h3)⟩
  · rintro σ2 H2 ⟨F2, ρ2, fps2, ok2, hp2, st2, hl⟩
    rw [List.drop_length] at hl
    cases hl
    exact p F2 fps2 σ2 H2 ok2 hp2 (st1.trans st2)
end
end IR
end
section
set_option Elab.async false
set_option linter.all false
set_option maxRecDepth 100000
set_option maxHeartbeats 4000000
/-! ICk1: side conditions by their text; each form of an expression. -/
namespace IR
open PySem PySem.Spec L2

/-! ### side conditions -/
def noStar : Expr → Bool
  | .Starred _ _ => false
  | _ => true
theorem star_one {e : Expr} (h : noStar e = true) (es : List Expr) (env : Env) : starEach (e :: es) env = (false, eval e env) :: starEach es env := by
  cases e <;> first | rfl | cases h
theorem star_back (pos : Pos) (env : Env) : ∀ {es : List Expr}, es.all noStar = true → (backTo pos (starEach es env)).any (·.1) = false
  | [], _ => rfl
  | e :: es, h => by
    rw [List.all_cons, Bool.and_eq_true] at h
    have ih := star_back pos env h.2
    rw [star_one h.1]
    unfold backTo at ih ⊢
    rw [List.map_cons, List.any_cons]
    exact ih
theorem star_all (pos : Pos) (env : Env) : ∀ {es : List Expr}, es.all noStar = true → (backTo pos (starEach es env)).all (fun x => !x.1) = true ∧ (starEach es env).length = es.length
  | [], _ => ⟨rfl, rfl⟩
  | e :: es, h => by
    rw [List.all_cons, Bool.and_eq_true] at h
    have ih := star_all pos env h.2
    rw [star_one h.1]
    unfold backTo at ih ⊢
    rw [List.map_cons, List.all_cons, List.length_cons, ih.2]
    exact ⟨ih.1, rfl⟩
def noSet : Expr → Bool
  | .Set _ _ _ => false
  | _ => true
theorem set_fold {e : Expr} (h : noSet e = true) (env : Env) (x : Value) : foldedSetIterable e env x = pure x := by
  cases e <;> first | rfl | cases h
def noComp : Expr → Bool
  | .ListComp _ _ _ _ => false
  | .SetComp _ _ _ _ => false
  | .DictComp _ _ _ _ _ => false
  | _ => true
theorem swaps_no {e : Expr} (h : noComp e = true) (t : Option Expr) (l : Nat) (env : Env) : swapsWith e t l env = pure false := by
  cases e <;> first | rfl | cases h
def plainTest : Expr → Bool
  | .UnaryOp .Not _ _ => false
  | .BoolOp _ _ _ => false
  | .IfExp _ _ _ _ => false
  | .Compare _ _ _ _ => false
  | _ => true
theorem truth_ok {e : Expr} {env : Env} (h : plainTest e = true) (whole : Sem Value) : isTrue e env whole = (do let v ← whole; standAt e.pos; holding [v] (truthy v)) := by
  cases e with
  | UnaryOp op a p => cases op <;> first | rfl | cases h
  | BoolOp _ _ _ => cases h
  | IfExp _ _ _ _ => cases h
  | Compare _ _ _ _ => cases h
  | _ => rfl
def plainSub : Expr → Bool
  | .Slice _ _ _ _ => false
  | _ => true
theorem plain_ix {b : Expr} (h : plainSub b = true) : PlainIx b := by
  intro o i
  cases b <;> first | rfl | cases h
theorem assign_one {e : Expr} (h : noStar e = true) (es : List Expr) (env : Env) : assignEach (e :: es) env = (false, assign e env) :: assignEach es env := by
  cases e <;> first | rfl | cases h
theorem assign_all (env : Env) : ∀ {es : List Expr}, es.all noStar = true → (assignEach es env).length = es.length ∧ (assignEach es env).findIdx? (·.1) = none
  | [], _ => ⟨rfl, rfl⟩
  | e :: es, h => by
    rw [List.all_cons, Bool.and_eq_true] at h
    have ih := assign_all env h.2
    rw [assign_one h.1]
    refine ⟨by rw [List.length_cons, List.length_cons, ih.1], ?_⟩
    rw [List.findIdx?_cons]
    simp [ih.2]
/-- a value that no two stores are swapped with -/
def swapFree : Expr → Expr → Bool
  | .Tuple _ _ _, .Tuple _ _ _ => false
  | .List _ _, .Tuple _ _ _ => false
  | _, _ => true
theorem swap_free {t e : Expr} {env : Env} (h : swapFree t e = true) : swappedStores [t] e env = pure none := by
  cases t <;> first | rfl | (cases e <;> first | rfl | cases h)
/-- the names of the targets that are local -/
def locNames (sc : List (Str × NameKind)) (line : Nat) (ts : List Expr) : List Str := ts.filterMap fun
  | .Name id pos => if sc.lookup id == some .local && pos.line == line then some id else none
  | _ => none
/-- a tuple's stores that keep their order: a target is no local name -/
def swapKept (sc : List (Str × NameKind)) : Expr → Expr → Bool
  | .Tuple ts _ _, .Tuple vs _ _ => (locNames sc ((ts.head?.map (·.pos.line)).getD 0) ts).length != ts.length
  | .List _ _, .Tuple _ _ _ => false
  | _, _ => true
theorem swap_kept {t e : Expr} {env : Env} {sc : List (Str × NameKind)} (hs : env.scope.names = sc) (h : swapKept sc t e = true) : swappedStores [t] e env = pure none := by
  cases t with
  | Tuple ts k p =>
    cases e with
    | Tuple vs k2 p2 =>
      have h : (locNames sc ((ts.head?.map (·.pos.line)).getD 0) ts).length != ts.length := h
      subst hs
      unfold swappedStores
      simp only
      split
      · rfl
      · split
        · rfl
        · rw [if_pos]
          rw [Bool.or_eq_true]
          exact Or.inl h
    | _ => rfl
  | List ts p => cases e <;> first | rfl | cases h
  | _ => rfl
/-- two names stored at once -/
def parOk (sc : List (Str × NameKind)) (x y : Str) (px py : Pos) (a b : Expr) : Bool :=
  (sc.lookup x == some .local) && (sc.lookup y == some .local) && py.line == px.line && x != y && noStar a && noStar b && !([a, b].all (constantsAlone 8)) && !([a, b].all (foldedForSure 8))
theorem par_ok {x y : Str} {px py pt pt2 : Pos} {kt k2 : Nat} {a b : Expr} {env : Env} (hk : env.scope.kind = .function) (h : parOk env.scope.names x y px py a b = true) : swappedStores [.Tuple [.Name x px, .Name y py] kt pt] (.Tuple [a, b] k2 pt2) env = pure (some [x, y]) := by
  unfold parOk at h
  simp only [Bool.and_eq_true, Bool.not_eq_true', bne_iff_ne, ne_eq, beq_iff_eq] at h
  obtain ⟨⟨⟨⟨⟨⟨⟨h1, h2⟩, h3⟩, h4⟩, h5⟩, h6⟩, h7⟩, h8⟩ := h
  have hb : env.blockKind = .function := by unfold Env.blockKind; rw [hk]; rfl
  have hst : ([a, b].any fun | .Starred _ _ => true | _ => false) = false := by
    cases a <;> cases b <;> first | rfl | exact absurd h5 Bool.false_ne_true | exact absurd h6 Bool.false_ne_true
  have k1 : env.kindOf x = some .local := h1
  have k2 : env.kindOf y = some .local := h2
  have e1 : ([x, y] : List Str).eraseDups.length = 2 := by
    have : (y == x) = false := by
      rw [beq_eq_false_iff_ne]
      exact fun z => h4 z.symm
    simp [List.eraseDups_cons, this]
  unfold swappedStores
  simp only [hb, List.length_cons, List.length_nil, hst, h7, h8]
  simp only [List.filterMap_cons, List.filterMap_nil, k1, k2, h3, List.head?_cons, Option.map_some, Option.getD_some, Expr.pos, beq_self_eq_true, Bool.and_self, if_true, List.length_cons, List.length_nil, e1]
  rw [if_neg (by decide)]
  refine (if_neg (fun z => absurd (hst.symm.trans z) Bool.false_ne_true)).trans ?_
  rfl
end IR
end
section
set_option Elab.async false
set_option linter.all false
set_option maxRecDepth 100000
set_option maxHeartbeats 4000000
/-! ICk2: each form of an expression, sound. -/
namespace IR
open PySem PySem.Spec L2

structure SE (X : Cx) (T : Tbl) (W : XK) (e : Expr) (a : EV) : Prop where
  pe : PE X e (rdV T W a)
  pt : PT X e (tT T W [] [] a.tst)
inductive SEs (X : Cx) (T : Tbl) (W : XK) : List Expr → List EV → Prop
  | nil : SEs X T W [] []
  | cons {e : Expr} {a : EV} {es : List Expr} {as : List EV} : noStar e = true → SE X T W e a → SEs X T W es as → SEs X T W (e :: es) (a :: as)
theorem PW.imp {X : Cx} {e : Expr} {t u : TT} (h : PW X e t) (i : ∀ σ H Q, u σ H Q → t σ H Q) : PW X e u := ⟨fun wh pins s σ H Q I q => h.run wh pins s σ H Q I (i σ H Q q)⟩
section
variable {X : Cx} {T : Tbl} {W : XK} {e e1 e2 e3 : Expr} {a b c : EV} {pos : Pos} {es : List Expr} {as : List EV}
theorem PW.pt {t : TT} (h : PW X e t) : PT X e t := ⟨fun pins s σ H Q I q => h.run _ pins s σ H Q I q⟩
theorem se_pv {m : M OV} (hK : X.K = T.K) (hp : plainTest e = true) (h : PE X e (tE T W m)) : SE X T W e (pv m) := ⟨h, by
  refine PT.imp (pt_truth h (truth_ok hp)) fun σ H Q q => ?_
  rw [hK]
  exact (tXT_bind q).mono fun v H1 ⟨x, q2⟩ => vTru_ok q2.toR⟩
/-- a value that stands for itself -/
theorem se_c {v : V} {x : D} (hK : X.K = T.K) (hp : plainTest e = true) (h : PE X e (tC v)) (hr : ∀ F, RD T F v x) : SE X T W e (pv (M.ret (.d x))) :=
  se_pv hK hp (PE.imp h fun σ H Q q => by
    obtain ⟨F, _, _, k⟩ := tX_ret q
    exact k v (hr F))
theorem SEs.len (h : SEs X T W es as) : es.length = as.length := by
  induction h with
  | nil => rfl
  | cons _ _ _ ih => simp [ih]
theorem SEs.star (h : SEs X T W es as) : es.all noStar = true := by
  induction h with
  | nil => rfl
  | cons h _ _ ih => rw [List.all_cons, h, ih]; rfl
theorem SEs.pa (h : SEs X T W es as) : PA X es (tArgs T W as) := by
  induction h with
  | nil => exact pa_nil
  | cons hs h _ ih => exact pa_cons h.pe ih (star_one hs _ _)

/-! ### names -/
theorem se_var {i : Nat} (hK : X.K = T.K) {x : Str} (h : PE X (.Name x pos) (tVar i)) : SE X T W (.Name x pos) (pv (mVar i)) := se_pv hK rfl (PE.imp h fun σ H Q q => mVar_rd q)
theorem se_mov {i : Nat} (hK : X.K = T.K) {x : Str} (h : PE X (.Name x pos) (tVar i)) : SE X T W (.Name x pos) (pv (mMov i)) := se_pv hK rfl (PE.imp h fun σ H Q q => mMov_rd q)
theorem se_bor {i : Nat} (hK : X.K = T.K) {x : Str} (h : PE X (.Name x pos) (tVar i)) : SE X T W (.Name x pos) ⟨M.stuck, M.bind (mBor i) vTru, some i⟩ := ⟨h, by
  refine PT.imp (pt_truth h (truth_ok rfl)) fun σ H Q q => ?_
  rw [hK]
  obtain ⟨v, y, e, q2⟩ := bor_rdT (tT.toR q)
  exact ⟨v, e, vTru_ok q2⟩⟩

/-! ### operators -/
def BOp.op : BOp → Operator
  | .add => .Add
  | .sub => .Sub
  | .mul => .Mult
  | .fdiv => .FloorDiv
  | .mod => .Mod
  | .pow => .Pow
def rBin (K : PySem.W.Frag) : BOp → R2
  | .add => rAddAll K
  | .sub => rI0 fun i j => .int (i - j)
  | .mul => rMulAll K
  | .fdiv => rI CDivW fun i j => .int (i / j)
  | .mod => rI (fun _ j => 0 < j) fun i j => .int (i % j)
  | .pow => rI CPow fun i j => .int (i ^ j.toNat)
theorem op_bin : ∀ o : BOp, OpR X (binaryOp o.op) (rBin X.K o)
  | .add => op_addAll
  | .sub => op_sub
  | .mul => op_mulAll
  | .fdiv => op_fdivW
  | .mod => op_mod
  | .pow => op_pow
theorem vBin_ok : ∀ o : BOp, BinOk T W (rBin T.K o) (vBin o)
  | .add => vAdd_ok
  | .sub => vSub_ok
  | .mul => vMul_ok
  | .fdiv => vFdiv_ok
  | .mod => vMod_ok
  | .pow => vPow_ok
theorem se_bin (o : BOp) (hK : X.K = T.K) (h1 : SE X T W e1 a) (h2 : SE X T W e2 b) : SE X T W (.BinOp e1 o.op e2 pos) (pv (ev2 a b (vBin o))) :=
  se_pv hK rfl (PE.imp (pe_op (op_bin o) h1.pe h2.pe) fun σ H Q q => by rw [hK]; exact ev2_rd (vBin_ok o) q)
theorem vNeg_ok {v : V} {x : D} {σ : L2.St} {H : Hp} {Q : VK} (h : tR T W [v] [x] (vNeg x) σ H Q) : rU (fun i => .int (-i)) v H Q := by
  cases x <;> simp only [vNeg] at h <;> try exact (tR_stuck h).elim
  obtain ⟨F, rv, s, k⟩ := tR_ret h
  rw [rv.one.int_inv]
  exact ⟨_, rfl, k _ (.int _)⟩
theorem se_neg (hK : X.K = T.K) (h1 : SE X T W e1 a) : SE X T W (.UnaryOp .USub e1 pos) (pv (ev1 a vNeg)) :=
  se_pv hK rfl (PE.imp (pe_un un_neg h1.pe) fun σ H Q q => ev1_rd (fun v x σ H Q => vNeg_ok) q)
theorem se_cmp (o : COp) (hK : X.K = T.K) (hu : X.A.units + 65 < cLine) (hm : behindInMarks o.op e2 = false) (h1 : SE X T W e1 a) (h2 : SE X T W e2 b) :
    SE X T W (.Compare e1 [o.op] [e2] pos) ⟨mB (ev2T a b (vCmp o)), ev2T a b (vCmp o), none⟩ := ⟨
  PE.imp (pe_cmpR (op_cmp hu o) h1.pe h2.pe hm) fun σ H Q q => by
    rw [hK]
    exact rdV.mono (ev2T_rd (vCmp_ok o) (mB_rd q)) fun v H1 q => rdV.mono q fun w H2 q => rTest_val q,
  PT.imp (pt_cmpR (op_cmp hu o) h1.pe h2.pe hm) fun σ H Q q => by
    rw [hK]
    exact ev2T_rd (vCmp_ok o) q⟩
theorem tRT_bind {vs : List V} {xs : List D} {f : M Bool} {k : Bool → M Bool} {σ : L2.St} {H : Hp} {Q : Bool → Hp → Prop} (h : tRT T W vs xs (M.bind f k) σ H Q) : tRT T W vs xs f σ H fun b H1 => tT T W [] [] (k b) σ H1 Q := by
  obtain ⟨F, ρ, fps, r, ok, rv, e, p⟩ := h
  rcases bind_cases e with ⟨b, ρ1, e1, e2⟩ | ⟨x, ρ1, e1, rfl⟩
  · exact ⟨F, ρ, fps, _, ok, rv, e1, fun F' fps' H' h1 h3 => ⟨F', ρ1, fps', r, h1, .nil, e2, p.imp h3⟩⟩
  · exact ⟨F, ρ, fps, _, ok, rv, e1, p⟩
theorem tT_two {u v w : V} {x y z : D} {f : M Bool} {σ : L2.St} {H : Hp} {Q : Bool → Hp → Prop} (h : tT T W [u, v, w] [x, y, z] f σ H Q) : tT T W [u, v] [x, y] f σ H Q := by
  obtain ⟨F, ρ, fps, r, ok, rv, e, p⟩ := h
  cases rv with
  | cons q1 rv => cases rv with
    | cons q2 _ => exact ⟨F, ρ, fps, r, ok, .cons q1 (.cons q2 .nil), e, p⟩
theorem chn_rd {o p : COp} {σ : L2.St} {H : Hp} {Q : Bool → Hp → Prop} (h : tT T W [] [] (chnM o p a b c) σ H Q) : tTest (tChain (rCmp T.K o) (rCmp T.K p) (rdV T W a) (rdV T W b) (rdV T W c)) σ H Q := by
  unfold chnM at h
  unfold tTest tChain rdV
  cases ha : a.bor with
  | some i => rw [ha] at h; exact (tT_stuck h).elim
  | none =>
    cases hb : b.bor with
    | some i => rw [ha, hb] at h; exact (tT_stuck h).elim
    | none =>
      cases hc : c.bor with
      | some i => rw [ha, hb, hc] at h; exact (tT_stuck h).elim
      | none =>
        rw [ha, hb, hc] at h
        refine (tXT_bind h).mono fun v H1 ⟨x, q⟩ => (tXT_bind q).mono fun w H2 ⟨y, q2⟩ => ?_
        have k1 := vCmp_ok o v w x y σ H2 _ (tTT_bind q2).toR
        refine rCmp_mono (fun z H3 hz => ?_) o k1
        obtain ⟨k, e, q3⟩ := hz
        refine ⟨k, e, ?_⟩
        cases k with
        | false =>
          rw [if_neg (by decide)]
          exact ⟨false, rfl, tT_ret q3⟩
        | true =>
          rw [if_pos rfl]
          refine (tXT_bind q3).mono fun u H4 ⟨z', q4⟩ => ?_
          exact vCmp_ok p w u y z' σ H4 _ (tT_two q4).toR
theorem se_chn (o p : COp) (hK : X.K = T.K) (hu : X.A.units + 65 < cLine) (hm : lastMarks [o.op, p.op] [e2, e3] = false) (h1 : SE X T W e1 a) (h2 : SE X T W e2 b) (h3 : SE X T W e3 c) :
    SE X T W (.Compare e1 [o.op, p.op] [e2, e3] pos) ⟨mB (chnM o p a b c), chnM o p a b c, none⟩ := ⟨
  PE.imp (pe_chain (op_cmp hu o) (op_cmp hu p) h1.pe h2.pe h3.pe hm) fun σ H Q q => by
    rw [hK]
    have h := chn_rd (mB_rd q)
    exact rdV.mono h fun v H1 q => rdV.mono q fun w H2 q => rCmp_mono (fun z H3 ⟨k, e, q⟩ => ⟨k, e, by
      cases k with
      | false =>
        rw [if_neg (by decide)] at q ⊢
        obtain ⟨k, e, q⟩ := q
        cases e
        exact q
      | true =>
        rw [if_pos rfl] at q ⊢
        exact rdV.mono q fun w' H4 q => rTest_val q⟩) o q,
  PT.imp (pt_chain (op_cmp hu o) (op_cmp hu p) h1.pe h2.pe h3.pe hm) fun σ H Q q => by
    rw [hK]
    exact chn_rd q⟩

/-! ### and, or, not, if -/
theorem tR_mB {vs : List V} {xs : List D} {m : M Bool} {σ : L2.St} {H : Hp} {Q : VK} (h : tR T W vs xs (mB m) σ H Q) : tRT T W vs xs m σ H fun b H' => Q (.bl b) H' := by
  obtain ⟨F, ρ, fps, r, ok, rv, e, p⟩ := h
  rcases bind_cases e with ⟨b, ρ1, e1, e2⟩ | ⟨x, ρ1, e1, rfl⟩
  · cases e2
    exact ⟨F, ρ, fps, _, ok, rv, e1, fun F' fps' H' h1 h3 => p (.bl b) [] F' fps' H' h1 (.d (.bl b)) (by simpa using h1.nd) (by simp) (by simpa using h3)⟩
  · exact ⟨F, ρ, fps, _, ok, rv, e1, p⟩
theorem tT_not {vs : List V} {xs : List D} {m : M Bool} {σ : L2.St} {H : Hp} {Q : Bool → Hp → Prop} (h : tT T W vs xs (mNot m) σ H Q) : tT T W vs xs m σ H fun b H' => Q (!b) H' := by
  refine (tTT_bind h).mono fun b H1 q => tT_ret q
theorem se_not (hK : X.K = T.K) (h1 : SE X T W e1 a) : SE X T W (.UnaryOp .Not e1 pos) ⟨ev1 a fun x => mB (mNot (vTru x)), mNot a.tst, none⟩ := ⟨
  PE.imp (pe_notT h1.pe) fun σ H Q q => by
    rw [hK]
    exact ev1_rd (r := fun v H Q => ∃ k, TruV T.K v H k ∧ Q (.bl (!k)) H) (fun v x σ H Q q => vTru_ok (Q := fun b H' => Q (.bl (!b)) H') (tRT_not (tR_mB q))) q,
  PT.imp (pt_not h1.pt) fun σ H Q q => tT_not q⟩
theorem tX_if {vs : List V} {xs : List D} {x : D} {v : V} {σ : L2.St} {H : Hp} {Q : VK} {m : Bool → M OV} (h : tX T W [v] [x] (M.bind (vTru x) m) σ H Q) : ∃ k, TruV T.K v H k ∧ tX T W [v] [x] (m k) σ H Q :=
  vTru_ok (tT_bind h).toR
theorem se_and1 (hs : noStar e1 = true) (h1 : SE X T W e1 a) : PE X (.BoolOp .And [e1] pos) (tE T W (andV [a])) ∧ PW X (.BoolOp .And [e1] pos) (tT T W [] [] (andT [a])) :=
  ⟨PE.imp (pe_one h1.pe) fun σ H Q q => by
    unfold andV at q
    unfold rdV
    cases hb : a.bor with
    | some i => rw [hb] at q; exact (tX_stuck q).elim
    | none => rw [hb] at q; exact q, pw_and1 h1.pt⟩
theorem se_or1 (hs : noStar e1 = true) (h1 : SE X T W e1 a) : PE X (.BoolOp .Or [e1] pos) (tE T W (orV [a])) ∧ PW X (.BoolOp .Or [e1] pos) (tT T W [] [] (orT [a])) :=
  ⟨PE.imp (pe_one h1.pe) fun σ H Q q => by
    unfold orV at q
    unfold rdV
    cases hb : a.bor with
    | some i => rw [hb] at q; exact (tX_stuck q).elim
    | none => rw [hb] at q; exact q, pw_or1 h1.pt⟩
theorem andL (hK : X.K = T.K) : ∀ {es : List Expr} {as : List EV}, SEs X T W es as → es ≠ [] → PE X (.BoolOp .And es pos) (tE T W (andV as)) ∧ PW X (.BoolOp .And es pos) (tT T W [] [] (andT as))
  | [], _, _, h => absurd rfl h
  | [e1], [a], .cons hs h1 .nil, _ => se_and1 hs h1
  | e1 :: e2 :: es, a :: b :: as, .cons hs h1 r, _ => by
    obtain ⟨i1, i2⟩ := andL hK r (by simp)
    refine ⟨PE.imp (pe_andT h1.pe i1) fun σ H Q q => ?_, PW.imp (pw_and h1.pt i2) fun σ H Q q => ?_⟩
    · rw [hK]
      unfold andV at q
      unfold tAndT rdV
      cases hb : a.bor with
      | some i => rw [hb] at q; exact (tX_stuck q).elim
      | none =>
        rw [hb] at q
        refine (tX_bind q).mono fun v H1 ⟨x, q⟩ => ?_
        obtain ⟨k, t, q⟩ := tX_if (vs := []) (xs := []) q
        refine ⟨k, t, ?_⟩
        cases k with
        | true => rw [if_pos rfl] at q ⊢; exact q.drop
        | false =>
          rw [if_neg (by decide)] at q ⊢
          obtain ⟨F, rv, _, k⟩ := tX_ret q
          cases rv with
          | cons rv _ => exact k _ rv
    · refine (tTT_bind q).mono fun k H1 q => ?_
      cases k with
      | true => rw [if_pos rfl] at q ⊢; exact q
      | false => rw [if_neg (by decide)] at q ⊢; exact tT_ret q
theorem orL (hK : X.K = T.K) : ∀ {es : List Expr} {as : List EV}, SEs X T W es as → es ≠ [] → PE X (.BoolOp .Or es pos) (tE T W (orV as)) ∧ PW X (.BoolOp .Or es pos) (tT T W [] [] (orT as))
  | [], _, _, h => absurd rfl h
  | [e1], [a], .cons hs h1 .nil, _ => se_or1 hs h1
  | e1 :: e2 :: es, a :: b :: as, .cons hs h1 r, _ => by
    obtain ⟨i1, i2⟩ := orL hK r (by simp)
    refine ⟨PE.imp (pe_orT h1.pe i1) fun σ H Q q => ?_, PW.imp (pw_or h1.pt i2) fun σ H Q q => ?_⟩
    · rw [hK]
      unfold orV at q
      unfold tOrT rdV
      cases hb : a.bor with
      | some i => rw [hb] at q; exact (tX_stuck q).elim
      | none =>
        rw [hb] at q
        refine (tX_bind q).mono fun v H1 ⟨x, q⟩ => ?_
        obtain ⟨k, t, q⟩ := tX_if (vs := []) (xs := []) q
        refine ⟨k, t, ?_⟩
        cases k with
        | false => rw [if_neg (by decide)] at q ⊢; exact q.drop
        | true =>
          rw [if_pos rfl] at q ⊢
          obtain ⟨F, rv, _, k⟩ := tX_ret q
          cases rv with
          | cons rv _ => exact k _ rv
    · refine (tTT_bind q).mono fun k H1 q => ?_
      cases k with
      | false => rw [if_neg (by decide)] at q ⊢; exact q
      | true => rw [if_pos rfl] at q ⊢; exact tT_ret q
theorem se_and (hK : X.K = T.K) (h : SEs X T W es as) (hn : es ≠ []) : SE X T W (.BoolOp .And es pos) ⟨andV as, andT as, none⟩ := ⟨(andL hK h hn).1, PW.pt (andL hK h hn).2⟩
theorem se_or (hK : X.K = T.K) (h : SEs X T W es as) (hn : es ≠ []) : SE X T W (.BoolOp .Or es pos) ⟨orV as, orT as, none⟩ := ⟨(orL hK h hn).1, PW.pt (orL hK h hn).2⟩
theorem pt_ifExp {c p q : Expr} {tc tp tq : TT} (hc : PT X c tc) (hp : PT X p tp) (hq : PT X q tq) : PT X (.IfExp c p q pos) (fun σ H Q => tc σ H fun k H1 => if k = true then tp σ H1 Q else tq σ H1 Q) := by
  refine ⟨fun pins s σ H Q I h => ?_⟩
  show wpAny _ _ (do if ← isTrue c X.env (eval c X.env) then isTrue p X.env (eval p X.env) else isTrue q X.env (eval q X.env)) _ _ _
  refine wpAny_bind (thn (hc.run pins s σ H _ I h) fun k s1 ⟨H1, I1, q1⟩ => ?_)
  cases k with
  | true => exact hp.run pins s1 σ H1 Q I1 q1
  | false => exact hq.run pins s1 σ H1 Q I1 q1
theorem se_ite (h1 : SE X T W e1 a) (h2 : SE X T W e2 b) (h3 : SE X T W e3 c) : SE X T W (.IfExp e1 e2 e3 pos) ⟨iteM a b c, M.bind a.tst fun k => if k then b.tst else c.tst, none⟩ := ⟨
  PE.imp (pe_ifExp h1.pt h2.pe h3.pe) fun σ H Q q => by
    have q : tE T W (iteM a b c) σ H Q := q
    unfold iteM at q
    unfold tIf rdV
    cases hb : b.bor with
    | some i => rw [hb] at q; exact (tX_stuck q).elim
    | none =>
      cases hc : c.bor with
      | some i => rw [hb, hc] at q; exact (tX_stuck q).elim
      | none =>
        rw [hb, hc] at q
        refine (tT_bind q).mono fun k H1 q => ?_
        cases k with
        | true => rw [if_pos rfl] at q ⊢; exact q
        | false => rw [if_neg (by decide)] at q ⊢; exact q,
  PT.imp (pt_ifExp h1.pt h2.pt h3.pt) fun σ H Q q => (tTT_bind q).mono fun k H1 q => by
    cases k with
    | true => rw [if_pos rfl] at q ⊢; exact q
    | false => rw [if_neg (by decide)] at q ⊢; exact q⟩
end
end IR
end
section
set_option Elab.async false
set_option linter.all false
set_option maxRecDepth 100000
set_option maxHeartbeats 4000000
/-! ICk3: displays, subscripts, built-ins, calls of defs, comprehensions, sound. -/
namespace IR
open PySem PySem.Spec L2
section
variable {X : Cx} {T : Tbl} {W : XK} {e e1 e2 e3 : Expr} {a b c : EV} {pos : Pos} {es : List Expr} {as : List EV}
/-! ### displays -/
theorem seqD_end {σ : L2.St} {H : Hp} {Q : VK} {k : List D → M OV} (h : tE T W (M.bind (seqD as) k) σ H Q) : tArgs T W as σ H fun ws H1 => ∃ ys, tX T W ws ys (k ys) σ H1 Q := by
  have h2 := seqD_args (tA_bind h)
  exact tArgs_mono h2 fun ws H1 ⟨ys, q⟩ => ⟨ys, by simpa using q⟩
theorem RDs.len2 {F : Hp} {vs : List V} {xs : List D} (h : RDs T F vs xs) : vs.length = xs.length := h.length
theorem se_tup {x1} (hK : X.K = T.K) (h : SEs X T W es as) : SE X T W (.Tuple es x1 pos) (pv (M.bind (seqD as) vTup)) :=
  se_pv hK rfl (PE.imp (pe_tup h.pa) fun σ H Q q => tArgs_mono (seqD_end q) fun ws H1 ⟨ys, q⟩ => by
    unfold vTup at q
    split at q
    · rename_i hl
      obtain ⟨F, rv, s, k⟩ := tX_new q
      exact ⟨by rw [rv.length]; exact hl, fun p hp => k p _ hp (rd_newT (free_F s hp) rv)⟩
    · exact (tX_stuck q).elim)
theorem se_lst (hK : X.K = T.K) (h : SEs X T W es as) : SE X T W (.List es pos) (pv (M.bind (seqD as) vLst)) :=
  se_pv hK rfl (PE.imp (pe_lst h.pa) fun σ H Q q => tArgs_mono (seqD_end q) fun ws H1 ⟨ys, q⟩ => by
    unfold vLst at q
    split at q
    · rename_i hl
      obtain ⟨F, rv, s, k⟩ := tX_own q
      exact ⟨by rw [rv.length]; exact hl, fun p hp => k p _ hp (ro_newL rv)⟩
    · exact (tX_stuck q).elim)

/-! ### subscripts -/
theorem se_idx (hK : X.K = T.K) (hp : plainSub e2 = true) (h1 : SE X T W e1 a) (h2 : SE X T W e2 b) : SE X T W (.Subscript e1 e2 pos) (pv (ev2 a b vIdx)) :=
  se_pv hK rfl (PE.imp (pe_ix ix_seq h1.pe h2.pe (plain_ix hp)) fun σ H Q q => by rw [hK]; exact ev2_rd vIdx_ok q)
/-- an end of a slice -/
inductive SO (X : Cx) (T : Tbl) (W : XK) : Bool → Option Expr → EV → Prop
  | none : SO X T W true none (pv (M.ret (.d .non)))
  | some {e : Expr} {a : EV} : SE X T W e a → SO X T W false (some e) a
def tPO (T : Tbl) (W : XK) : Option Expr → EV → TO
  | none, _ => tNoPart
  | some _, a => tPart (rdV T W a)
theorem SO.po {n : Bool} {o : Option Expr} (h : SO X T W n o a) : PO X o (tPO T W o a) := by
  cases h with
  | none => exact po_none
  | some h => exact po_some h.pe
theorem tX_opt {α : Type} {o : Option α} {vs : List V} {xs : List D} {k : α → M OV} {σ : L2.St} {H : Hp} {Q : VK} (q : tX T W vs xs (M.bind (mOpt o) k) σ H Q) : ∃ z, o = some z ∧ tX T W vs xs (k z) σ H Q := by
  cases o with
  | none => exact (tX_stuck q).elim
  | some z => exact ⟨z, rfl, q⟩
/-- the end's reading: what it gives, where the values so far stand -/
theorem end_rd {n : Bool} {o : Option Expr} (ho : SO X T W n o a) (hb : a.bor = none) {vs : List V} {xs : List D} {σ : L2.St} {H : Hp} {k : Option Int → M OV} {Q : VK} {R : Option Int → Hp → Prop}
    (q : tX T W vs xs (M.bind (M.fz a.val) fun x => M.bind (mOpt (endOf n x)) k) σ H Q)
    (hk : ∀ (v : V) (x : D) (l : Option Int) (H1 : Hp), tX T W (v :: vs) (x :: xs) (k l) σ H1 Q → R l H1) : tPO T W o a σ H R := by
  cases ho with
  | none =>
    obtain ⟨F, ρ, fps, r, ok, rv, e, p⟩ := q
    exact hk .non .non none H ⟨F, ρ, fps, r, ok, .cons .non rv, e, p⟩
  | some h =>
    show rdV T W a σ H _
    unfold rdV
    rw [hb]
    obtain ⟨F, ρ, fps, r, ok, rv, e, p⟩ := q
    rcases bind_cases e with ⟨x, ρ1, e1, e2⟩ | ⟨x, ρ1, e1, rfl⟩
    · rcases bind_cases e1 with ⟨u, ρ2, e3, e4⟩ | ⟨y, ρ2, e3, e4⟩
      · cases e4
        refine ⟨F, ρ, fps, _, ok, .nil, e3, fun v fp F' fps' H' h1 h2 h3 h4 h5 => ?_⟩
        obtain ⟨k1, k2⟩ := h1.freeze h2 h3 h4
        have s := h5.freeze h4
        obtain ⟨l, p1, p2⟩ := tX_opt (T := T) (W := W) (vs := v :: vs) (xs := u.fz :: xs) (σ := σ) (H := H') (Q := Q) ⟨_, ρ1, fps', r, k1, .cons k2 (rv.mono s.mono), e2, p.imp s⟩
        have p3 := hk v u.fz l H' p2
        cases hu : u.fz <;> rw [hu] at p1 k2 <;> simp only [endOf, reduceCtorEq, Option.some.injEq] at p1
        cases k2
        subst p1
        exact ⟨_, rfl, p3⟩
      · cases e4
    · rcases bind_cases e1 with ⟨u, ρ2, e3, e4⟩ | ⟨y, ρ2, e3, e4⟩
      · cases e4
      · cases e4
        exact ⟨F, ρ, fps, _, ok, .nil, e3, p⟩
theorem tX_take1 {u v w : V} {x y z : D} {f : M OV} {σ : L2.St} {H : Hp} {Q : VK} (h : tX T W [u, v, w] [x, y, z] f σ H Q) : tR T W [w] [z] f σ H Q := by
  obtain ⟨F, ρ, fps, r, ok, rv, e, p⟩ := h
  cases rv with
  | cons q1 rv => cases rv with
    | cons q2 rv => exact ⟨F, ρ, fps, r, ok, rv.toB, e, p⟩
theorem tR_take1 {u v w : V} {x y z : D} {f : M OV} {σ : L2.St} {H : Hp} {Q : VK} (h : tR T W [w, u, v] [z, x, y] f σ H Q) : tR T W [w] [z] f σ H Q := by
  obtain ⟨F, ρ, fps, r, ok, rv, e, p⟩ := h
  cases rv with
  | cons q1 rv => exact ⟨F, ρ, fps, r, ok, .cons q1 .nil, e, p⟩
theorem se_slc {nl nh : Bool} {lo hi : Option Expr} {p2 : Pos} (hK : X.K = T.K) (h1 : SE X T W e1 a) (h2 : SO X T W nl lo b) (h3 : SO X T W nh hi c) : SE X T W (.Subscript e1 (.Slice lo hi none p2) pos) (pv (slcM nl nh a b c)) :=
  se_pv hK rfl (PE.imp (pe_slice sl_all h1.pe h2.po h3.po) fun σ H Q q => by
    rw [hK]
    unfold slcM at q
    unfold tSl rdV
    cases hb : b.bor with
    | some i => rw [hb] at q; exact (tX_stuck q).elim
    | none =>
      cases hc : c.bor with
      | some i => rw [hb, hc] at q; exact (tX_stuck q).elim
      | none =>
        rw [hb, hc] at q
        cases ha : a.bor with
        | none =>
          rw [ha] at q
          refine (tX_bind q).mono fun v H1 ⟨x, q⟩ => ?_
          exact end_rd h2 hb q fun w y l H2 q => end_rd h3 hc q fun w2 hh H3 l' q => vSlc_ok (tX_take1 q)
        | some i =>
          rw [ha] at q
          obtain ⟨⟨v, ev⟩, q⟩ := has_rd q
          refine ⟨v, ev, ?_⟩
          refine end_rd h2 hb q fun w y l H2 q => end_rd h3 hc q fun w2 hh H3 l' q => ?_
          obtain ⟨v', x, ev', q⟩ := bor_rd (tX.toR q)
          rw [ev] at ev'
          cases ev'
          exact vSlc_ok (tR_take1 q))
end
end IR
end
section
set_option Elab.async false
set_option linter.all false
set_option maxRecDepth 100000
set_option maxHeartbeats 4000000
/-! ICk4: built-ins, isinstance, calls of defs, comprehensions, sound. -/
namespace IR
open PySem PySem.Spec L2
section
variable {X : Cx} {T : Tbl} {W : XK} {e e1 e2 e3 : Expr} {a b c : EV} {pos p : Pos} {es : List Expr} {as : List EV}
/-! ### built-ins -/
theorem pe_bv {v : Value} {nm : Str} {r : List V → Hp → VK → Prop} {t : TA} (hv : bootBuiltins nm = some v) (hk : (∃ id, v = .builtin id) ∨ ∃ n, v = .type n) (hn : nm ≠ "__name__") (hd : (nm == ("__debug__" : Str)) = false) (hg : Gl X nm) (hm : X.mg nm = none)
    (hc : CallR X v r) (ha : PA X (e :: es) t) (hs : (e :: es).all noStar = true) : PE X (.Call (.Name nm p) (e :: es) [] pos) (tCB r t) := by
  rw [List.all_cons, Bool.and_eq_true] at hs
  rcases hk with ⟨id, rfl⟩ | ⟨n, rfl⟩
  · exact pe_callB hc hg hm hv ha hn hd (star_one hs.1 _ _) (star_back _ _ hs.2)
  · exact pe_callTy hc hg hm hv ha hn hd (star_one hs.1 _ _) (star_back _ _ hs.2)
theorem blt_boot (b : Blt) : bootBuiltins b.name = some b.val ∧ ((∃ id, b.val = .builtin id) ∨ ∃ n, b.val = .type n) ∧ b.name ≠ "__name__" ∧ (b.name == ("__debug__" : Str)) = false := by
  cases b <;> refine ⟨by decide +kernel, ?_, by decide, by decide⟩ <;> first | exact .inl ⟨_, rfl⟩ | exact .inr ⟨_, rfl⟩
theorem bl2_boot (b : Bl2) : bootBuiltins b.name = some (.builtin b.id) ∧ b.name ≠ "__name__" ∧ (b.name == ("__debug__" : Str)) = false := by
  cases b <;> exact ⟨by decide +kernel, by decide, by decide⟩
theorem se_blt (o : Blt) (hK : X.K = T.K) (hc : X.calm = true) (hg : Gl X o.name) (hm : X.mg o.name = none) (hs : noStar e1 = true) (h1 : SE X T W e1 a) : SE X T W (.Call (.Name o.name p) [e1] [] pos) (pv (ev1 a (vBlt o))) := by
  obtain ⟨b1, b2, b3, b4⟩ := blt_boot o
  refine se_pv hK rfl (PE.imp (pe_bv b1 b2 b3 b4 hg hm (call_blt hc o) (pa_cons h1.pe pa_nil (star_one hs _ _)) (by rw [List.all_cons, hs]; rfl)) fun σ H Q q => ?_)
  rw [hK]
  exact ev1_rd (r := fun v H Q => rBlt T.K o [v] H Q) (fun v x σ H Q q => vBlt_ok o q) q
theorem vBl2_bin (o : Bl2) : BinOk T W (fun v w H Q => rBl2 o [v, w] H Q) (vBl2 o) := fun v w x y σ H Q h => vBl2_ok o h
theorem se_bl2 (o : Bl2) (hK : X.K = T.K) (hc : X.calm = true) (hg : Gl X o.name) (hm : X.mg o.name = none) (hs1 : noStar e1 = true) (hs2 : noStar e2 = true) (h1 : SE X T W e1 a) (h2 : SE X T W e2 b) :
    SE X T W (.Call (.Name o.name p) [e1, e2] [] pos) (pv (ev2 a b (vBl2 o))) := by
  obtain ⟨b1, b3, b4⟩ := bl2_boot o
  refine se_pv hK rfl (PE.imp (pe_bv b1 (.inl ⟨_, rfl⟩) b3 b4 hg hm (call_bl2 hc o) (pa_cons h1.pe (pa_cons h2.pe pa_nil (star_one hs2 _ _)) (star_one hs1 _ _)) (by rw [List.all_cons, List.all_cons, hs1, hs2]; rfl)) fun σ H Q q => ?_)
  exact ev2_rd (vBl2_bin o) q

/-! ### isinstance -/
theorem ty_boot (t : Ty) : bootBuiltins t.s = some (.type t.s) ∧ (t.s : Str) ≠ "__name__" ∧ ((t.s : Str) == ("__debug__" : Str)) = false := by
  cases t <;> exact ⟨by decide +kernel, by decide, by decide⟩
theorem pe_ty (t : Ty) (hg : Gl X t.s) (hm : X.mg t.s = none) : PE X (.Name t.s p) (tC (.ty t.s)) := by
  obtain ⟨b1, b2, b3⟩ := ty_boot t
  exact pe_bltn hg hm b1 rfl b2 b3
theorem RB.grow {F H H' : Hp} {v : V} {x : D} (s : Same H H') (h : RB T F H v x) : RB T F H' v x := by
  cases h with
  | fro h => exact .fro h
  | lst h r => exact .lst (s _ _ h) r
  | dK h r => exact .dK (s _ _ h) r
  | dT h r => exact .dT (s _ _ h) r
  | obj h1 h2 h3 r => exact .obj h1 (s _ _ h2) h3 r
theorem isi1 {x : D} {t : Ty} {b : Bool} (h : x.isTys [t] = some b) : x.isTy t = some b := by
  unfold D.isTys at h
  split at h
  · rename_i e; cases h; exact e
  · rename_i e
    unfold D.isTys at h
    cases h
    exact e
  · cases h
theorem isi_any {K : PySem.W.Frag} {x : D} : ∀ {ts : List Ty} {b : Bool}, x.isTys ts = some b → ∃ u, x.tyV = some u ∧ PySem.W.kitAny K u (ts.map fun t => .type t.s) = some b ∨ ts = []
  | [], b, h => ⟨.none, .inr rfl⟩
  | t :: r, b, h => by
    unfold D.isTys at h
    split at h
    · rename_i e
      cases h
      obtain ⟨u, e1, e2⟩ := tyV_kit (K := K) e
      exact ⟨u, .inl ⟨e1, kitAny_cons e2 (fun z => by cases z) (fun _ => rfl)⟩⟩
    · rename_i e
      obtain ⟨u, e1, e2⟩ := tyV_kit (K := K) e
      refine ⟨u, .inl ⟨e1, kitAny_cons e2 (fun _ => ?_) (fun z => by cases z)⟩⟩
      obtain ⟨u', z | z⟩ := isi_any (K := K) h
      · rw [e1] at z
        obtain ⟨rfl⟩ := Option.some.inj z.1
        exact z.2
      · subst z
        unfold D.isTys at h
        cases h
        rfl
    · cases h
theorem vIsi_ok {t : Ty} {v : V} {x : D} {σ : L2.St} {H : Hp} {Q : VK} (h : tR T W [v] [x] (vIsi [t] x) σ H Q) : rIsi T.K [v, .ty t.s] H Q := by
  unfold vIsi at h
  split at h
  · rename_i b e
    obtain ⟨F, rv, s, k⟩ := tR_ret h
    obtain ⟨u, e1, e2⟩ := tyV_kit (K := T.K) (isi1 e)
    exact ⟨v, .ty t.s, u, .type t.s, b, rfl, .ty _, rv.one.ty s e1, e2, k _ (.bl _)⟩
  · exact (tR_stuck h).elim
/-- .. of several types; the tuple of them lies at a free place -/
theorem vIsi_okT {ts : List Ty} (hts : ts ≠ []) {v : V} {x : D} {σ : L2.St} {H : Hp} {Q : VK} (h : tR T W [v] [x] (vIsi ts x) σ H Q) (p : Addr) (hp : H p = none) : rIsiT T.K [v, .ref p] (upd H p (.tup (ts.map fun t => V.ty t.s))) Q := by
  unfold vIsi at h
  split at h
  · rename_i b e
    obtain ⟨F, ρ, fps, r, ok, rv, e0, q⟩ := h
    cases e0
    obtain ⟨u, z | z⟩ := isi_any (K := T.K) e
    · have sH : Same H (upd H p (.tup (ts.map fun t => V.ty t.s))) := upd_le hp
      refine ⟨v, p, _, u, _, b, rfl, upd_same, ?_, (RB.grow sH rv.one).ty (ok.sub.trans sH) z.1, z.2, ?_⟩
      · clear e z hts sH
        induction ts with
        | nil => exact .nil
        | cons t r ih => exact .cons (.ty _) ih
      · exact q _ [] F fps _ (ok.kept sH) (.d (.bl b)) (by simpa using ok.nd) (by simp) (by simpa using Stp.kept sH)
    · exact absurd z hts
  · exact (tR_stuck h).elim
theorem boot_isi : bootBuiltins "isinstance" = some (.builtin "isinstance") := by decide +kernel
theorem se_isi1 (t : Ty) {p2 : Pos} (hK : X.K = T.K) (hg : Gl X "isinstance") (hm : X.mg "isinstance" = none) (hgt : Gl X t.s) (hmt : X.mg t.s = none) (hs : noStar e1 = true) (h1 : SE X T W e1 a) :
    SE X T W (.Call (.Name "isinstance" p) [e1, .Name t.s p2] [] pos) (pv (ev1 a (vIsi [t]))) := by
  refine se_pv hK rfl (PE.imp (pe_bv boot_isi (.inl ⟨_, rfl⟩) (by decide) (by decide) hg hm call_isi (pa_cons h1.pe (pa_cons (pe_ty t hgt hmt) pa_nil) (star_one hs _ _)) (by rw [List.all_cons, hs]; rfl)) fun σ H Q q => ?_)
  rw [hK]
  exact ev1_rd (r := fun v H Q => rIsi T.K [v, .ty t.s] H Q) (fun v x σ H Q q => vIsi_ok q) q
def tTys : List Ty → TA
  | [] => tNil
  | t :: r => tCons (tC (.ty t.s)) (tTys r)
def nTys : List Ty → List Pos → List Expr
  | t :: r, p :: ps => .Name t.s p :: nTys r ps
  | _, _ => []
theorem pa_tys : ∀ {ts : List Ty} {ps : List Pos}, ts.length = ps.length → (∀ t ∈ ts, Gl X t.s ∧ X.mg t.s = none) → PA X (nTys ts ps) (tTys ts)
  | [], [], _, _ => pa_nil
  | t :: r, q :: ps, h, k => by
    obtain ⟨k1, k2⟩ := k t (List.mem_cons_self ..)
    exact pa_cons (pe_ty t k1 k2) (pa_tys (by simpa using h) fun t ht => k t (List.mem_cons_of_mem _ ht))
theorem tTys_rd : ∀ (ts : List Ty) {σ : L2.St} {H : Hp} {Q : List V → Hp → Prop}, Q (ts.map fun t => .ty t.s) H → tTys ts σ H Q
  | [], _, _, _, h => h
  | t :: r, σ, H, Q, h => tTys_rd r (Q := fun vs H' => Q (.ty t.s :: vs) H') h
theorem se_isiT (ts : List Ty) (ps : List Pos) {kk : Nat} {p2 : Pos} (hts : ts ≠ []) (hl : ts.length = ps.length) (hz : ts.length ≤ sizeLine) (hK : X.K = T.K) (hg : Gl X "isinstance") (hm : X.mg "isinstance" = none) (hgt : ∀ t ∈ ts, Gl X t.s ∧ X.mg t.s = none) (hs : noStar e1 = true) (h1 : SE X T W e1 a) :
    SE X T W (.Call (.Name "isinstance" p) [e1, .Tuple (nTys ts ps) kk p2] [] pos) (pv (ev1 a (vIsi ts))) := by
  refine se_pv hK rfl (PE.imp (pe_bv boot_isi (.inl ⟨_, rfl⟩) (by decide) (by decide) hg hm call_isiT (pa_cons h1.pe (pa_cons (pe_tup (pa_tys hl hgt)) pa_nil) (star_one hs _ _)) (by rw [List.all_cons, hs]; rfl)) fun σ H Q q => ?_)
  rw [hK]
  have h := ev1_rd (r := fun v H Q => ∀ p, H p = none → rIsiT T.K [v, .ref p] (upd H p (.tup (ts.map fun t => V.ty t.s))) Q) (fun v x σ H Q q => vIsi_okT hts q) q
  exact rdV.mono h fun v H1 k => tTys_rd ts ⟨by simpa using hz, fun p hp => k p hp⟩

/-! ### calls of defs -/
structure FnR (X : Cx) (T : Tbl) (W : XK) (G : GF) (x : Str) (f n : Nat) (io : Bool) (dfl : List D) : Prop where
  ex : ∃ (CX : CXT) (k : Nat) (addr : Addr) (fd : FuncData) (ps : List Str) (ds : List Value) (dvs : List V), FnOk X.prog X.w X.K X.mg X.base CX k addr fd ps (if io then spIO T n (gIO G f) else spP T n (gP G f)) ∧ Room k X.A ∧ X.mg x = some (.ref addr) ∧ PySem.W.keepIn X.K (.ref addr) = true ∧ Binds X.K fd ps ds ∧ Vals dvs ds ∧
    (∀ F, RDs T F dvs dfl) ∧ Passes CX X W
theorem se_cal {G : GF} {x : Str} {f n : Nat} {dfl : List D} (hK : X.K = T.K) (R : FnR X T W G x f n false dfl) (hg : Gl X x) (hd : (x == ("__debug__" : Str)) = false) (h : SEs X T W es as) (hn : as.length + dfl.length = n) :
    SE X T W (.Call (.Name x p) es [] pos) (pv (M.bind (seqD as) fun xs => callP G f (xs ++ dfl))) := by
  obtain ⟨CX, k, addr, fd, ps, ds, dvs, F, hr, hm, hk, hb, hv, hD, hx⟩ := R.ex
  have F : FnOk X.prog X.w X.K X.mg X.base CX k addr fd ps (spP T n (gP G f)) := F
  have key : ∀ σ H Q, tE T W (M.bind (seqD as) fun xs => callP G f (xs ++ dfl)) σ H Q → tCall (spP T n (gP G f)) dvs W (tArgs T W as) σ H Q := fun σ H Q q =>
    tArgs_len (seqD_args (callP_rd hD (fun ds e => by rw [List.length_append, ← e]; exact hn) q))
  cases h with
  | nil => exact se_pv hK rfl (PE.imp (pe_call0 F hr hg hm hk hb hv hx hd) key)
  | cons hs h1 hr' => exact se_pv hK rfl (PE.imp (pe_call F hr hg hm hk hb hv hx (SEs.pa (.cons hs h1 hr')) hd (star_one hs _ _) (star_back _ _ hr'.star)) key)
theorem se_cio {G : GF} {x y : Str} {py : Pos} {f n i : Nat} {dfl : List D} (hK : X.K = T.K) (R : FnR X T W G x f n true dfl) (hg : Gl X x) (hd : (x == ("__debug__" : Str)) = false) (hy : PE X (.Name y py) (tVar i)) (h : SEs X T W es as) (hn : as.length + dfl.length + 1 = n) :
    SE X T W (.Call (.Name x p) (.Name y py :: es) [] pos) (pv (M.bind (mHas i) fun _ => M.bind (seqD as) fun xs => callIO G f i (xs ++ dfl))) := by
  obtain ⟨CX, k, addr, fd, ps, ds, dvs, F, hr, hm, hk, hb, hv, hD, hx⟩ := R.ex
  have F : FnOk X.prog X.w X.K X.mg X.base CX k addr fd ps (spIO T n (gIO G f)) := F
  refine se_pv hK rfl (PE.imp (pe_call F hr hg hm hk hb hv hx (pa_cons hy h.pa) hd rfl (star_back _ _ h.star)) fun σ H Q q => ?_)
  obtain ⟨v, ev, q⟩ := callIO_rd (n := n) hD (fun ds e => by rw [List.length_append, ← e]; exact hn) q
  exact ⟨v, ev, tArgs_len (tArgs_mono (seqD_args q) fun ws H1 k hl => k hl)⟩
theorem se_cbo {G : GF} {x : Str} {f n : Nat} {dfl : List D} (hK : X.K = T.K) (R : FnR X T W G x f n false dfl) (hg : Gl X x) (hd : (x == ("__debug__" : Str)) = false) (h : SEs X T W es as) (hn : as.length + dfl.length = n) :
    SE X T W (.Call (.Name x p) es [] pos) (pv (M.bind (argB as) fun qs => callB G f (qs ++ dfl.map fun x => (none, x)))) := by
  obtain ⟨CX, k, addr, fd, ps, ds, dvs, F, hr, hm, hk, hb, hv, hD, hx⟩ := R.ex
  have F : FnOk X.prog X.w X.K X.mg X.base CX k addr fd ps (spP T n (gP G f)) := F
  have key : ∀ σ H Q, tE T W (M.bind (argB as) fun qs => callB G f (qs ++ dfl.map fun x => (none, x))) σ H Q → tCall (spP T n (gP G f)) dvs W (tArgs T W as) σ H Q := fun σ H Q q =>
    callB_rd hD (fun l e => by rw [← e]; exact hn) q
  cases h with
  | nil => exact se_pv hK rfl (PE.imp (pe_call0 F hr hg hm hk hb hv hx hd) key)
  | cons hs h1 hr' => exact se_pv hK rfl (PE.imp (pe_call F hr hg hm hk hb hv hx (SEs.pa (.cons hs h1 hr')) hd (star_one hs _ _) (star_back _ _ hr'.star)) key)

/-! ### what is walked -/
def SI (X : Cx) (T : Tbl) (W : XK) (tg iter : Expr) (s : M (List D) × Option Nat) : Prop := ∃ wi, PI X tg iter wi ∧ ∀ σ H R, tI T W s.2 s.1 σ H R → wi σ H R
theorem si_seq {tg l : Expr} (hK : X.K = T.K) (h : SE X T W l a) : SI X T W tg l (srcM .seq [a]) := ⟨_, pi_any h.pe, fun σ H R q => by rw [hK]; exact src_seq q⟩
theorem si_rng1 {tg : Expr} (hg : Gl X "range") (hm : X.mg "range" = none) (hs : noStar e1 = true) (h : SE X T W e1 a) : SI X T W tg (.Call (.Name "range" p) [e1] [] pos) (srcM .rng [a]) :=
  ⟨_, pi_range1 hg hm (SEs.pa (.cons hs h .nil)) (star_one hs _ _), fun σ H R q => src_rng1 q⟩
theorem si_rng2 {tg : Expr} (hg : Gl X "range") (hm : X.mg "range" = none) (hs : noStar e1 = true) (hs2 : noStar e2 = true) (h : SE X T W e1 a) (h2 : SE X T W e2 b) : SI X T W tg (.Call (.Name "range" p) [e1, e2] [] pos) (srcM .rng [a, b]) :=
  ⟨_, pi_range2 hg hm (SEs.pa (.cons hs h (.cons hs2 h2 .nil))) (by rw [star_one hs, star_one hs2]; rfl) (star_one hs2 _ _), fun σ H R q => src_rng2 q⟩
theorem si_zip {elts : List Expr} {kk : Nat} {tpos : Pos} (hK : X.K = T.K) (hg : Gl X "zip") (hm : X.mg "zip" = none) (hs : noStar e1 = true) (hs2 : noStar e2 = true) (h : SE X T W e1 a) (h2 : SE X T W e2 b) : SI X T W (.Tuple elts kk tpos) (.Call (.Name "zip" p) [e1, e2] [] pos) (srcM .zip [a, b]) :=
  ⟨_, RZ.pi_zipA hg hm (SEs.pa (.cons hs h (.cons hs2 h2 .nil))) (star_one hs _ _) (star_back _ _ (by rw [List.all_cons, hs2]; rfl)), fun σ H R q => by rw [hK]; exact src_zip q⟩
theorem si_enm {elts : List Expr} {kk : Nat} {tpos : Pos} (hK : X.K = T.K) (hg : Gl X "enumerate") (hm : X.mg "enumerate" = none) (hs : noStar e1 = true) (h : SE X T W e1 a) : SI X T W (.Tuple elts kk tpos) (.Call (.Name "enumerate" p) [e1] [] pos) (srcM .enm [a]) :=
  ⟨_, pi_enum hg hm (SEs.pa (.cons hs h .nil)) (star_one hs _ _), fun σ H R q => by rw [hK]; exact src_enm q⟩

/-! ### comprehensions -/
theorem tYes_rd {σ : L2.St} {H : Hp} {Q : Bool → Hp → Prop} (h : tT T W [] [] (M.ret true) σ H Q) : tYes σ H Q := tT_ret h
theorem cprE_bor {s : M (List D) × Option Nat} {own : List Nat} {tg : Tg} {cond : M Bool} {σ : L2.St} {H : Hp} {Q : VK} (h : tE T W (cprE s own tg a cond) σ H Q) : a.bor = none ∧ tE T W (cprM s.1 s.2 own tg a.val cond) σ H Q := by
  unfold cprE at h
  cases hb : a.bor with
  | none => rw [hb] at h; exact ⟨rfl, h⟩
  | some i => rw [hb] at h; exact (tX_stuck h).elim
theorem pe_cpr {elt tg iter : Expr} {ifs : List Expr} {scope : Scope} {own : List (Str × Nat)} {tgI : Tg} {s : M (List D) × Option Nat} {cond : M Bool} (hK : X.K = T.K) (hc : X.calm = true) (hN : X.N.Nodup) (hi : SI X T W tg iter s) (ok : BlkOk X.N X.env.scope scope own) (htg : ∀ j ∈ tgI.slots, j ∈ own.map (·.2))
    (hg : ∀ (s : Shared) (H : Hp) (C : Addr) (cl : List (Str × Addr)) (fp : List Addr), PG (X.blk s H scope (compEnvC scope cl C X.env) fp) tg (gTg T.K tgI))
    (ht : ∀ (s : Shared) (H : Hp) (C : Addr) (cl : List (Str × Addr)) (fp : List Addr), PTs (X.blk s H scope (compEnvC scope cl C X.env) fp) ifs (tT T W0 [] [] cond))
    (he : ∀ (s : Shared) (H : Hp) (C : Addr) (cl : List (Str × Addr)) (fp : List Addr), PE (X.blk s H scope (compEnvC scope cl C X.env) fp) elt (rdV T W0 a)) (hs : noSet iter = true) :
    PE X (.ListComp elt [⟨tg, iter, ifs, 0⟩] scope pos) (tE T W (cprE s (own.map (·.2)) tgI a cond)) := by
  obtain ⟨wi, hi1, hi2⟩ := hi
  refine PE.imp (pe_lc hc hN hi1 ok hg ht he (set_fold hs _)) fun σ H Q q => ?_
  obtain ⟨hb, q⟩ := cprE_bor q
  refine cpr_rd hi2 (fun σ H Q q => q) (fun σ H Q q => ?_) htg q
  unfold rdV
  rw [hb]
  exact q
theorem ps_cpr {pn : Option V} {i : Nat} {y : Str} {py spos : Pos} {elt tg iter : Expr} {ifs : List Expr} {scope : Scope} {own : List (Str × Nat)} {tgI : Tg} {s : M (List D) × Option Nat} {cond : M Bool} (hz : pn = none ∨ i ≠ 0) (hK : X.K = T.K) (hc : X.calm = true) (hN : X.N.Nodup) (hy : X.N[i]? = some y) (hyl : X.env.scope.names.lookup y = some .local)
    (hsw : swapsWith (.ListComp elt [⟨tg, iter, ifs, 0⟩] scope pos) (some (.Name y py)) spos.line X.env = pure true) (hi : SI X T W tg iter s) (ok : BlkOk X.N X.env.scope scope own) (htg : ∀ j ∈ tgI.slots, j ∈ own.map (·.2))
    (hg : ∀ (s : Shared) (H : Hp) (C : Addr) (cl : List (Str × Addr)) (fp : List Addr), PG (X.blk s H scope (compEnvC scope cl C X.env) fp) tg (gTg T.K tgI))
    (ht : ∀ (s : Shared) (H : Hp) (C : Addr) (cl : List (Str × Addr)) (fp : List Addr), PTs (X.blk s H scope (compEnvC scope cl C X.env) fp) ifs (tT T W0 [] [] cond))
    (he : ∀ (s : Shared) (H : Hp) (C : Addr) (cl : List (Str × Addr)) (fp : List Addr), PE (X.blk s H scope (compEnvC scope cl C X.env) fp) elt (rdV T W0 a)) (hs : noSet iter = true) :
    PS X (.Assign [.Name y py] (.ListComp elt [⟨tg, iter, ifs, 0⟩] scope pos) spos) (tS T pn W (M.bind (valOf (pv (cprE s (own.map (·.2)) tgI a cond))) fun o => M.bind (mPut i o) fun _ => M.ret .next)) := by
  obtain ⟨wi, hi1, hi2⟩ := hi
  refine PS.imp (ps_setLc hc hN hy hyl hsw hi1 ok hg ht he (set_fold hs _)) fun Z σ H q => ?_
  have q := rd_set hz q
  unfold tAsg rdV pv at q
  show tLc _ _ _ _ _ σ H _
  obtain ⟨hb, q⟩ := cprE_bor q
  refine cpr_rd hi2 (fun σ H Q q => q) (fun σ H Q q => ?_) htg q
  unfold rdV
  rw [hb]
  exact q
end
end IR
end
section
set_option Elab.async false
set_option linter.all false
set_option maxRecDepth 100000
set_option maxHeartbeats 4000000
/-! ICk5: the check that data says what a text says: expressions. -/
namespace IR
open PySem PySem.Spec L2

/-! ### the context -/
structure FnI where
  f : Nat
  n : Nat
  io : Bool
  dfls : List (List D)
structure Ctx where
  names : List Str
  sc : List (Str × NameKind)
  lk : List (Str × FnI)
  cons : List (Str × Nat)
  free : List Str
  cel : List Str
  pin : Bool := false
structure FnQ (P : Program) (w : World) (K : PySem.W.Frag) (mg : Str → Option Value) (base : Heap) (A : Around) (T : Tbl) (G : GF) (x : Str) (f n : Nat) (io : Bool) (dfl : List D) : Prop where
  ex : ∃ (k : Nat) (addr : Addr) (fd : FuncData) (ps : List Str) (ds : List Value) (dvs : List V), FnOk P w K mg base (L2.CX P w) k addr fd ps (if io then spIO T n (gIO G f) else spP T n (gP G f)) ∧ Room k A ∧ mg x = some (.ref addr) ∧ PySem.W.keepIn K (.ref addr) = true ∧ Binds K fd ps ds ∧ Vals dvs ds ∧
    ∀ F, RDs T F dvs dfl
structure CtxOk (Γ : Ctx) (X : Cx) (T : Tbl) (W : XK) (G : GF) (C : Nat → Option D) : Prop where
  nm : X.N = Γ.names
  nd : X.N.Nodup
  calm : X.calm = true
  K : X.K = T.K
  sc : X.env.scope.names = Γ.sc
  kind : X.env.scope.kind = .function
  units : X.A.units + 65 < cLine
  fn : ∀ x q dfl, Γ.lk.lookup x = some q → dfl ∈ q.dfls → FnQ X.prog X.w X.K X.mg X.base X.A T G x q.f q.n q.io dfl
  con : ∀ x n, Γ.cons.lookup x = some n → ∃ v u d, X.mg x = some u ∧ RelV v u ∧ C n = some d ∧ ∀ F, RD T F v d
  free : ∀ x ∈ Γ.free, X.mg x = none
  ps : Passes (L2.CX X.prog X.w) X W
  stor : ∀ x ∈ Γ.cel, X.fn x = true
section
variable {Γ : Ctx} {X : Cx} {T : Tbl} {W : XK} {G : GF} {C : Nat → Option D}
theorem CtxOk.fnR (ok : CtxOk Γ X T W G C) {x : Str} {q : FnI} {dfl : List D} (h : Γ.lk.lookup x = some q) (hd : dfl ∈ q.dfls) : FnR X T W G x q.f q.n q.io dfl := by
  obtain ⟨k, addr, fd, ps, ds, dvs, h1, h2, h3, h4, h5, h6, h7⟩ := (ok.fn x q dfl h hd).ex
  exact ⟨_, k, addr, fd, ps, ds, dvs, h1, h2, h3, h4, h5, h6, h7, ok.ps⟩

/-! ### names -/
def visB : Option NameKind → Bool
  | some .local => true
  | some .cell => true
  | some .free => true
  | _ => false
def locB : Option NameKind → Bool
  | some .local => true
  | some .cell => true
  | _ => false
def nmB (Γ : Ctx) (i : Nat) (x : Str) : Bool := decide (Γ.names[i]? = some x) && visB (Γ.sc.lookup x) && !(x == ("__debug__" : Str)) && !(x == ("__classdict__" : Str))
def glB (Γ : Ctx) (x : Str) : Bool := (Γ.sc.lookup x == some .globalImplicit) && !(x == ("__debug__" : Str))
def frB (Γ : Ctx) (x nm : Str) : Bool := decide (x = nm) && glB Γ x && decide (x ∈ Γ.free)
theorem nm_ok (ok : CtxOk Γ X T W G C) {i : Nat} {x : Str} {pos : Pos} (h : nmB Γ i x = true) : PE X (.Name x pos) (tVar i) := by
  unfold nmB at h
  simp only [Bool.and_eq_true, decide_eq_true_eq, Bool.not_eq_true'] at h
  obtain ⟨⟨⟨h1, h2⟩, h3⟩, h4⟩ := h
  refine pe_var (by rw [ok.nm]; exact h1) ?_ h3 h4
  unfold Vis
  rw [ok.sc]
  unfold visB at h2
  split at h2 <;> first | exact .inl (by assumption) | exact .inr (.inl (by assumption)) | exact .inr (.inr (by assumption)) | cases h2
theorem gl_ok (ok : CtxOk Γ X T W G C) {x : Str} (h : glB Γ x = true) : Gl X x ∧ (x == ("__debug__" : Str)) = false := by
  unfold glB at h
  simp only [Bool.and_eq_true, Bool.not_eq_true', beq_iff_eq] at h
  refine ⟨?_, h.2⟩
  unfold Gl Env.kindOf
  rw [ok.sc]
  exact h.1
theorem fr_ok (ok : CtxOk Γ X T W G C) {x nm : Str} (h : frB Γ x nm = true) : x = nm ∧ Gl X x ∧ X.mg x = none := by
  unfold frB at h
  simp only [Bool.and_eq_true, decide_eq_true_eq] at h
  exact ⟨h.1.1, (gl_ok ok h.1.2).1, ok.free x h.2⟩
/-! ### small equalities -/
def D.same : D → D → Bool
  | .non, .non => true
  | .bl a, .bl b => a == b
  | .int a, .int b => a == b
  | .str a, .str b => decide (a = b)
  | _, _ => false
theorem D.same_eq {x y : D} (h : D.same x y = true) : x = y := by
  cases x <;> cases y <;> simp only [D.same, beq_iff_eq, decide_eq_true_eq, Bool.false_eq_true, reduceCtorEq] at h <;> simp [h]
def sameL : List D → List D → Bool
  | [], [] => true
  | x :: xs, y :: ys => D.same x y && sameL xs ys
  | _, _ => false
theorem sameL_eq : ∀ {xs ys : List D}, sameL xs ys = true → xs = ys
  | [], [], _ => rfl
  | x :: xs, y :: ys, h => by
    simp only [sameL, Bool.and_eq_true] at h
    rw [D.same_eq h.1, sameL_eq h.2]
  | [], _ :: _, h => by simp [sameL] at h
  | _ :: _, [], h => by simp [sameL] at h
def fnB (Γ : Ctx) (x : Str) (f m : Nat) (io : Bool) (dfl : List D) : Bool := glB Γ x && match Γ.lk.lookup x with
  | some q => q.f == f && q.io == io && q.n == m + dfl.length && q.dfls.any (sameL dfl)
  | none => false
theorem fn_okB (ok : CtxOk Γ X T W G C) {x : Str} {f m : Nat} {io : Bool} {dfl : List D} (h : fnB Γ x f m io dfl = true) : FnR X T W G x f (m + dfl.length) io dfl ∧ Gl X x ∧ (x == ("__debug__" : Str)) = false := by
  unfold fnB at h
  rw [Bool.and_eq_true] at h
  obtain ⟨hg, h⟩ := h
  split at h
  · rename_i q e
    simp only [Bool.and_eq_true, beq_iff_eq, List.any_eq_true] at h
    obtain ⟨⟨⟨h1, h2⟩, h3⟩, d, h4, h5⟩ := h
    rw [← sameL_eq h5] at h4
    have R := ok.fnR e h4
    rw [h1, h2, h3] at R
    exact ⟨R, gl_ok ok hg⟩
  · cases h
def mC : D → Const → Bool
  | .non, .none => true
  | .bl a, .bool b => a == b
  | .int a, .int b => a == b
  | .str a, .str b => decide (a = b)
  | _, _ => false
theorem mC_ok (hK : X.K = T.K) {d : D} {c : Const} {j : Nat} {pos : Pos} (h : mC d c = true) : SE X T W (.Constant c j pos) (pv (M.ret (.d d))) := by
  cases d <;> cases c <;> simp only [mC, beq_iff_eq, decide_eq_true_eq, Bool.false_eq_true, reduceCtorEq] at h
  · exact se_c hK rfl pe_non fun _ => .non
  · subst h; exact se_c hK rfl pe_bl fun _ => .bl _
  · subst h; exact se_c hK rfl pe_int fun _ => .int _
  · subst h; exact se_c hK rfl pe_str fun _ => .str _
def opB : BOp → Operator → Bool
  | .add, .Add => true
  | .sub, .Sub => true
  | .mul, .Mult => true
  | .fdiv, .FloorDiv => true
  | .mod, .Mod => true
  | .pow, .Pow => true
  | _, _ => false
theorem opB_ok {o : BOp} {p : Operator} (h : opB o p = true) : p = o.op := by
  cases o <;> cases p <;> first | rfl | cases h
def cpB (o : COp) (p : CmpOp) : Bool := decide (p = o.op)
/-! ### types of isinstance -/
def tyB (Γ : Ctx) : List Ty → List Expr → Bool
  | [], [] => true
  | t :: ts, .Name x _ :: es => frB Γ x t.s && tyB Γ ts es
  | _, _ => false
theorem tyB_ok (ok : CtxOk Γ X T W G C) : ∀ {ts : List Ty} {es : List Expr}, tyB Γ ts es = true → ∃ ps, ts.length = ps.length ∧ es = nTys ts ps ∧ ∀ t ∈ ts, Gl X t.s ∧ X.mg t.s = none
  | [], [], _ => ⟨[], rfl, rfl, fun _ h => by cases h⟩
  | t :: ts, [], h => by simp [tyB] at h
  | [], e :: es, h => by simp [tyB] at h
  | t :: ts, e :: es, h => by
    cases e <;> simp only [tyB, Bool.false_eq_true] at h
    rename_i x q
    rw [Bool.and_eq_true] at h
    obtain ⟨ps, h1, h2, h3⟩ := tyB_ok ok h.2
    obtain ⟨rfl, h4, h5⟩ := fr_ok ok h.1
    refine ⟨q :: ps, by simp [h1], by rw [h2]; rfl, fun u hu => ?_⟩
    rcases List.mem_cons.mp hu with rfl | hu
    · exact ⟨h4, h5⟩
    · exact h3 u hu
/-! ### targets -/
def storB (Γ : Ctx) (i : Nat) (x : Str) : Bool := decide (Γ.names[i]? = some x) && match Γ.sc.lookup x with
  | some .local => true
  | some .cell => decide (x ∈ Γ.cel)
  | _ => false
theorem stor_ok (ok : CtxOk Γ X T W G C) {i : Nat} {x : Str} (h : storB Γ i x = true) : X.N[i]? = some x ∧ L2.Loc X.env.scope x ∧ (X.fn x = true ∨ X.env.scope.names.lookup x = some .local) := by
  unfold storB at h
  rw [Bool.and_eq_true, decide_eq_true_eq] at h
  obtain ⟨h1, h2⟩ := h
  rw [ok.nm]
  split at h2
  · rename_i e
    exact ⟨h1, .inl (by rw [ok.sc]; exact e), .inr (by rw [ok.sc]; exact e)⟩
  · rename_i e
    exact ⟨h1, .inr (by rw [ok.sc]; exact e), .inl (ok.stor x (by simpa using h2))⟩
  · cases h2
mutual
def tgB (Γ : Ctx) : Tg → Expr → Bool
  | .v i, e => (match e with
    | .Name x _ => storB Γ i x
    | _ => false)
  | .u ts, e => (match e with
    | .Tuple es _ _ => es.all noStar && tgsB Γ ts es
    | _ => false)
def tgsB (Γ : Ctx) : List Tg → List Expr → Bool
  | [], es => (match es with
    | [] => true
    | _ => false)
  | t :: ts, es => (match es with
    | e :: r => (noStar e && tgB Γ t e) && tgsB Γ ts r
    | _ => false)
end
theorem tgs_len : ∀ {ts : List Tg} {es : List Expr}, tgsB Γ ts es = true → ts.length = es.length
  | [], [], _ => rfl
  | [], _ :: _, h => by simp [tgsB] at h
  | _ :: _, [], h => by simp [tgsB] at h
  | t :: ts, e :: es, h => by
    simp only [tgsB, Bool.and_eq_true] at h
    simp [tgs_len h.2]
mutual
theorem tg_ok (ok : CtxOk Γ X T W G C) : ∀ (t : Tg) {e : Expr}, tgB Γ t e = true → PG X e (gTg T.K t)
  | .v i, e, h => by
    simp only [tgB] at h
    split at h
    · rename_i x pos
      obtain ⟨h1, h2, h3⟩ := stor_ok ok h
      exact pg_name ok.nd h1 h2 h3
    · cases h
  | .u ts, e, h => by
    simp only [tgB] at h
    split at h
    · rename_i es k pos
      rw [Bool.and_eq_true] at h
      have q := tgs_ok ok ts h.2
      obtain ⟨a1, a2⟩ := assign_all X.env h.1
      have := pg_tup (X := X) (k := k) (pos := pos) (n := ts.length) ok.calm q (by rw [a1, tgs_len h.2]) a2
      rw [ok.K] at this
      exact this
    · cases h
theorem tgs_ok (ok : CtxOk Γ X T W G C) : ∀ (ts : List Tg) {es : List Expr}, tgsB Γ ts es = true → PGs X es (gTgs T.K ts)
  | [], es, h => by
    cases es with
    | nil => exact pgs_nil
    | cons _ _ => simp [tgsB] at h
  | t :: ts, es, h => by
    cases es with
    | nil => simp [tgsB] at h
    | cons e es =>
      simp only [tgsB, Bool.and_eq_true] at h
      exact pgs_cons (tg_ok ok t h.1.2) (tgs_ok ok ts h.2) (by rw [assign_one h.1.1]; rfl)
end

/-! ### comprehensions' blocks -/
def relN (sc : List (Str × NameKind)) (ns : List (Str × NameKind)) : List (Str × NameKind) := ns.map fun (n, k) => if k == .free && sc.lookup n == some .cell then (n, .cell) else (n, k)
def celN (ns : List (Str × NameKind)) : List Str := (ns.filter fun y => y.2 == .cell).map (·.1)
def Ctx.blk (Γ : Ctx) (ns : List (Str × NameKind)) : Ctx := { Γ with sc := relN Γ.sc ns, cel := celN ns }
theorem CtxOk.blk (ok : CtxOk Γ X T W G C) {scope : Scope} (hk : scope.kind = .function) (hu : ∀ y ∈ scope.names, scope.names.lookup y.1 = some y.2) (s : Shared) (H : Hp) (Cl : Addr) (cl : List (Str × Addr)) (fp : List Addr) :
    CtxOk (Γ.blk scope.names) (X.blk s H scope (compEnvC scope cl Cl X.env) fp) T W0 G C where
  nm := ok.nm
  nd := ok.nd
  calm := ok.calm
  K := ok.K
  sc := by
    show (relS scope X.env.scope).names = relN Γ.sc scope.names
    unfold relS relN
    rw [ok.kind, ok.sc]
    have e : (ScopeKind.function == ScopeKind.function) = true := rfl
    simp only [e, Bool.and_true]
  kind := hk
  units := ok.units
  fn := ok.fn
  con := ok.con
  free := ok.free
  ps := passes_call (X := X.blk s H scope (compEnvC scope cl Cl X.env) fp) takes0 fun _ _ _ _ h => h
  stor := fun x hx => by
    obtain ⟨y, hy, rfl⟩ := List.mem_map.mp (show x ∈ celN scope.names from hx)
    rw [List.mem_filter] at hy
    show (scope.names.lookup y.1 == some .cell) = true
    rw [hu y hy.1]
    simpa using hy.2
def ownN (Γ : Ctx) (own : List Nat) : List (Str × Nat) := own.map fun j => (Γ.names.getD j "", j)
theorem ownN_snd (own : List Nat) : (ownN Γ own).map (·.2) = own := by
  unfold ownN
  rw [List.map_map]
  exact List.map_id' own
def fabS (ns : List (Str × NameKind)) : Scope := ⟨.function, ns, false, false, []⟩
def blkB (Γ : Ctx) (scope : Scope) (own : List Nat) : Bool := blkC Γ.names (fabS Γ.sc) scope (ownN Γ own)
theorem blk_ok (ok : CtxOk Γ X T W G C) {scope : Scope} {own : List Nat} (h : blkB Γ scope own = true) : BlkOk X.N X.env.scope scope (ownN Γ own) := by
  have b := blkOk_by h
  rw [ok.nm]
  exact ⟨b.kind, b.uniq, b.ix, fun y hy e => by rw [ok.sc]; exact b.free y hy e, b.own⟩

/-! ### the check -/
def notN (e : IE) : Bool := !e.isNop
def condB (mc : Expr → Bool) (nop : Bool) : List Expr → Bool
  | [] => nop
  | [c] => !nop && mc c
  | _ => false
def optB (mc : Expr → Bool) (nop : Bool) : Option Expr → Bool
  | none => nop
  | some e => !nop && mc e
def tupT : Expr → Bool
  | .Tuple _ _ _ => true
  | _ => false
mutual
def mE (Γ : Ctx) : IE → Expr → Bool
  | .nop, _ => false
  | .cst d, e => (match e with
    | .Constant c _ _ => mC d c
    | _ => false)
  | .var i, e => (match e with
    | .Name x _ => nmB Γ i x
    | _ => false)
  | .mov i, e => (match e with
    | .Name x _ => nmB Γ i x
    | _ => false)
  | .bor i, e => (match e with
    | .Name x _ => nmB Γ i x
    | _ => false)
  | .glb n, e => (match e with
    | .Name x _ => glB Γ x && decide (Γ.cons.lookup x = some n)
    | _ => false)
  | .bin o a b, e => (match e with
    | .BinOp x op y _ => opB o op && mE Γ a x && mE Γ b y
    | _ => false)
  | .neg a, e => (match e with
    | .UnaryOp op x _ => decide (op = .USub) && mE Γ a x
    | _ => false)
  | .cmp o a b, e => (match e with
    | .Compare x [op] [y] _ => cpB o op && !behindInMarks o.op y && mE Γ a x && mE Γ b y
    | _ => false)
  | .chn o p a b c, e => (match e with
    | .Compare x [op, op'] [y, z] _ => cpB o op && cpB p op' && !lastMarks [o.op, p.op] [y, z] && mE Γ a x && mE Γ b y && mE Γ c z
    | _ => false)
  | .and as, e => (match e with
    | .BoolOp op es _ => decide (op = .And) && !es.isEmpty && mEs Γ as es
    | _ => false)
  | .or as, e => (match e with
    | .BoolOp op es _ => decide (op = .Or) && !es.isEmpty && mEs Γ as es
    | _ => false)
  | .not a, e => (match e with
    | .UnaryOp op x _ => decide (op = .Not) && mE Γ a x
    | _ => false)
  | .ite t a b, e => (match e with
    | .IfExp x y z _ => mE Γ t x && mE Γ a y && mE Γ b z
    | _ => false)
  | .tup as, e => (match e with
    | .Tuple es _ _ => mEs Γ as es
    | _ => false)
  | .lst as, e => (match e with
    | .List es _ => mEs Γ as es
    | _ => false)
  | .idx a b, e => (match e with
    | .Subscript x y _ => plainSub y && mE Γ a x && mE Γ b y
    | _ => false)
  | .slc a lo hi, e => (match e with
    | .Subscript x (.Slice l h none _) _ => mE Γ a x && optB (mE Γ lo) lo.isNop l && optB (mE Γ hi) hi.isNop h
    | _ => false)
  | .blt b a, e => (match e with
    | .Call (.Name x _) [y] [] _ => frB Γ x b.name && noStar y && mE Γ a y
    | _ => false)
  | .bl2 b a c, e => (match e with
    | .Call (.Name x _) [y, z] [] _ => frB Γ x b.name && noStar y && noStar z && mE Γ a y && mE Γ c z
    | _ => false)
  | .isi a ts, e => (match e with
    | .Call (.Name x _) [y, z] [] _ => frB Γ x "isinstance" && noStar y && mE Γ a y && !ts.isEmpty && decide (ts.length ≤ sizeLine) && (match z with
      | .Tuple es _ _ => tyB Γ ts es
      | e => ts.length == 1 && tyB Γ ts [e])
    | _ => false)
  | .cal f as dfl, e => (match e with
    | .Call (.Name x _) es [] _ => fnB Γ x f as.length false dfl && mEs Γ as es
    | _ => false)
  | .cio f i as dfl, e => (match e with
    | .Call (.Name x _) (.Name y _ :: es) [] _ => fnB Γ x f (as.length + 1) true dfl && nmB Γ i y && mEs Γ as es
    | _ => false)
  | .cbo f as dfl, e => (match e with
    | .Call (.Name x _) es [] _ => fnB Γ x f as.length false dfl && mEs Γ as es
    | _ => false)
  | .cpr k src own tg elt cond, e => (match e with
    | .ListComp el [⟨t, it, ifs, as⟩] scope _ => (as == 0) && noSet it && blkB Γ scope own && tg.slots.all (fun j => decide (j ∈ own)) && mSrc Γ src k t it && tgB (Γ.blk scope.names) tg t && mE (Γ.blk scope.names) elt el && condB (mE (Γ.blk scope.names) cond) cond.isNop ifs
    | _ => false)
def mEs (Γ : Ctx) : List IE → List Expr → Bool
  | [], es => (match es with
    | [] => true
    | _ => false)
  | a :: as, es => (match es with
    | e :: r => noStar e && mE Γ a e && mEs Γ as r
    | _ => false)
def mSrc (Γ : Ctx) : List IE → SrcK → Expr → Expr → Bool
  | [], _, _, _ => false
  | a :: r, k, t, it => (match k with
    | .seq => r.isEmpty && mE Γ a it
    | .rng => (match it with
      | .Call (.Name x _) es [] _ => frB Γ x "range" && es.all noStar && (es.length == 1 || es.length == 2) && (match es with
        | y :: ys => mE Γ a y && mEs Γ r ys
        | _ => false)
      | _ => false)
    | .zip => (match it with
      | .Call (.Name x _) [y, z] [] _ => tupT t && frB Γ x "zip" && noStar y && noStar z && mE Γ a y && mEs Γ r [z]
      | _ => false)
    | .enm => (match it with
      | .Call (.Name x _) [y] [] _ => tupT t && frB Γ x "enumerate" && noStar y && mE Γ a y && r.isEmpty
      | _ => false))
end
end
end IR
end
section
set_option Elab.async false
set_option linter.all false
set_option maxRecDepth 100000
set_option maxHeartbeats 8000000
/-! ICk6: the check of expressions is sound. -/
namespace IR
open PySem PySem.Spec L2
section
variable {T : Tbl} {G : GF} {C : Nat → Option D}
theorem evs_length : ∀ es : List IE, (evs G C es).length = es.length
  | [] => rfl
  | e :: es => by simp [evs, evs_length es]
theorem not_nop {e : IE} (h : e.isNop = true) : e = .nop := by cases e <;> first | rfl | cases h
theorem pts_nil_ret {X : Cx} {W : XK} : PTs X [] (tT T W [] [] (M.ret true)) := ⟨fun pins s σ H Q I h => pts_nil.run pins s σ H Q I (tYes_rd h)⟩
theorem opt_ok {Γ : Ctx} {X : Cx} {W : XK} {a : IE} {o : Option Expr} (h : optB (mE Γ a) a.isNop o = true) (k : ∀ e, mE Γ a e = true → SE X T W e (ev G C a)) : SO X T W a.isNop o (ev G C a) := by
  cases o with
  | none =>
    have h : a.isNop = true := h
    rw [h, not_nop h]
    simp only [ev]
    exact .none
  | some e =>
    have h : (!a.isNop && mE Γ a e) = true := h
    rw [Bool.and_eq_true, Bool.not_eq_true'] at h
    rw [h.1]
    exact .some (k e h.2)
mutual
theorem mE_ok : ∀ (ir : IE) {Γ : Ctx} {X : Cx} {W : XK} {e : Expr}, mE Γ ir e = true → CtxOk Γ X T W G C → SE X T W e (ev G C ir)
  | .nop, Γ, X, W, e, h, ok => by simp [mE] at h
  | .cst d, Γ, X, W, e, h, ok => by
    unfold mE at h
    split at h
    · simp only [ev]; exact mC_ok ok.K h
    · cases h
  | .var i, Γ, X, W, e, h, ok => by
    unfold mE at h
    split at h
    · simp only [ev]; exact se_var ok.K (nm_ok ok h)
    · cases h
  | .mov i, Γ, X, W, e, h, ok => by
    unfold mE at h
    split at h
    · simp only [ev]; exact se_mov ok.K (nm_ok ok h)
    · cases h
  | .bor i, Γ, X, W, e, h, ok => by
    unfold mE at h
    split at h
    · simp only [ev]; exact se_bor ok.K (nm_ok ok h)
    · cases h
  | .glb n, Γ, X, W, e, h, ok => by
    unfold mE at h
    split at h
    · rw [Bool.and_eq_true, decide_eq_true_eq] at h
      obtain ⟨g1, g2⟩ := gl_ok ok h.1
      obtain ⟨v, u, d, h1, h2, h3, h4⟩ := ok.con _ n h.2
      simp only [ev, h3]
      exact se_c ok.K rfl (pe_glob g1 h1 h2 g2) h4
    · cases h
  | .bin o a b, Γ, X, W, e, h, ok => by
    unfold mE at h
    split at h
    · simp only [Bool.and_eq_true] at h
      rw [opB_ok h.1.1]
      simp only [ev]
      exact se_bin o ok.K (mE_ok a h.1.2 ok) (mE_ok b h.2 ok)
    · cases h
  | .neg a, Γ, X, W, e, h, ok => by
    unfold mE at h
    split at h
    · simp only [Bool.and_eq_true, decide_eq_true_eq] at h
      rw [h.1]
      simp only [ev]
      exact se_neg ok.K (mE_ok a h.2 ok)
    · cases h
  | .cmp o a b, Γ, X, W, e, h, ok => by
    unfold mE at h
    split at h
    · simp only [Bool.and_eq_true, cpB, decide_eq_true_eq, Bool.not_eq_true'] at h
      rw [h.1.1.1]
      simp only [ev]
      exact se_cmp o ok.K ok.units h.1.1.2 (mE_ok a h.1.2 ok) (mE_ok b h.2 ok)
    · cases h
  | .chn o p a b c, Γ, X, W, e, h, ok => by
    unfold mE at h
    split at h
    · simp only [Bool.and_eq_true, cpB, decide_eq_true_eq, Bool.not_eq_true'] at h
      rw [h.1.1.1.1.1, h.1.1.1.1.2]
      simp only [ev]
      exact se_chn o p ok.K ok.units h.1.1.1.2 (mE_ok a h.1.1.2 ok) (mE_ok b h.1.2 ok) (mE_ok c h.2 ok)
    · cases h
  | .and as, Γ, X, W, e, h, ok => by
    unfold mE at h
    split at h
    · simp only [Bool.and_eq_true, decide_eq_true_eq, Bool.not_eq_true'] at h
      rw [h.1.1]
      simp only [ev]
      exact se_and ok.K (mEs_ok as h.2 ok) (fun z => by rw [z] at h; simp at h)
    · cases h
  | .or as, Γ, X, W, e, h, ok => by
    unfold mE at h
    split at h
    · simp only [Bool.and_eq_true, decide_eq_true_eq, Bool.not_eq_true'] at h
      rw [h.1.1]
      simp only [ev]
      exact se_or ok.K (mEs_ok as h.2 ok) (fun z => by rw [z] at h; simp at h)
    · cases h
  | .not a, Γ, X, W, e, h, ok => by
    unfold mE at h
    split at h
    · simp only [Bool.and_eq_true, decide_eq_true_eq] at h
      rw [h.1]
      simp only [ev]
      exact se_not ok.K (mE_ok a h.2 ok)
    · cases h
  | .ite t a b, Γ, X, W, e, h, ok => by
    unfold mE at h
    split at h
    · simp only [Bool.and_eq_true] at h
      simp only [ev]
      exact se_ite (mE_ok t h.1.1 ok) (mE_ok a h.1.2 ok) (mE_ok b h.2 ok)
    · cases h
  | .tup as, Γ, X, W, e, h, ok => by
    unfold mE at h
    split at h
    · simp only [ev]
      exact se_tup ok.K (mEs_ok as h ok)
    · cases h
  | .lst as, Γ, X, W, e, h, ok => by
    unfold mE at h
    split at h
    · simp only [ev]
      exact se_lst ok.K (mEs_ok as h ok)
    · cases h
  | .idx a b, Γ, X, W, e, h, ok => by
    unfold mE at h
    split at h
    · simp only [Bool.and_eq_true] at h
      simp only [ev]
      exact se_idx ok.K h.1.1 (mE_ok a h.1.2 ok) (mE_ok b h.2 ok)
    · cases h
  | .slc a lo hi, Γ, X, W, e, h, ok => by
    unfold mE at h
    split at h
    · simp only [Bool.and_eq_true] at h
      simp only [ev]
      exact se_slc ok.K (mE_ok a h.1.1 ok) (opt_ok h.1.2 fun e he => mE_ok lo he ok) (opt_ok h.2 fun e he => mE_ok hi he ok)
    · cases h
  | .blt b a, Γ, X, W, e, h, ok => by
    unfold mE at h
    split at h
    · simp only [Bool.and_eq_true] at h
      obtain ⟨rfl, g1, g2⟩ := fr_ok ok h.1.1
      simp only [ev]
      exact se_blt b ok.K ok.calm g1 g2 h.1.2 (mE_ok a h.2 ok)
    · cases h
  | .bl2 b a c, Γ, X, W, e, h, ok => by
    unfold mE at h
    split at h
    · simp only [Bool.and_eq_true] at h
      obtain ⟨rfl, g1, g2⟩ := fr_ok ok h.1.1.1.1
      simp only [ev]
      exact se_bl2 b ok.K ok.calm g1 g2 h.1.1.1.2 h.1.1.2 (mE_ok a h.1.2 ok) (mE_ok c h.2 ok)
    · cases h
  | .isi a ts, Γ, X, W, e, h, ok => by
    unfold mE at h
    split at h
    · rename_i x p y z pos
      simp only [Bool.and_eq_true, decide_eq_true_eq, Bool.not_eq_true'] at h
      obtain ⟨⟨⟨⟨⟨h1, h2⟩, h3⟩, h4⟩, h5⟩, h6⟩ := h
      obtain ⟨rfl, g1, g2⟩ := fr_ok ok h1
      have ha := mE_ok a h3 ok
      have hne : ts ≠ [] := fun z => by rw [z] at h4; simp at h4
      simp only [ev]
      split at h6
      · obtain ⟨ps, q1, rfl, q3⟩ := tyB_ok ok h6
        exact se_isiT ts ps hne q1 h5 ok.K g1 g2 q3 h2 ha
      · rw [Bool.and_eq_true] at h6
        obtain ⟨q0, q6⟩ := h6
        match ts, q0, q6 with
        | [t], _, q6 =>
          obtain ⟨ps, q1, q2, q3⟩ := tyB_ok ok q6
          match ps, q1, q2 with
          | [p2], _, q2 =>
            obtain ⟨rfl⟩ := (List.cons.inj q2).1
            obtain ⟨k1, k2⟩ := q3 t (List.mem_cons_self ..)
            exact se_isi1 t ok.K g1 g2 k1 k2 h2 ha
        | [], q0, _ => exact absurd rfl hne
        | _ :: _ :: _, q0, _ => simp at q0
    · cases h
  | .cal f as dfl, Γ, X, W, e, h, ok => by
    unfold mE at h
    split at h
    · rw [Bool.and_eq_true] at h
      obtain ⟨R, g1, g2⟩ := fn_okB ok h.1
      simp only [ev]
      exact se_cal ok.K R g1 g2 (mEs_ok as h.2 ok) (by rw [evs_length])
    · cases h
  | .cio f i as dfl, Γ, X, W, e, h, ok => by
    unfold mE at h
    split at h
    · simp only [Bool.and_eq_true] at h
      obtain ⟨R, g1, g2⟩ := fn_okB ok h.1.1
      simp only [ev]
      exact se_cio ok.K R g1 g2 (nm_ok ok h.1.2) (mEs_ok as h.2 ok) (by rw [evs_length]; omega)
    · cases h
  | .cbo f as dfl, Γ, X, W, e, h, ok => by
    unfold mE at h
    split at h
    · rw [Bool.and_eq_true] at h
      obtain ⟨R, g1, g2⟩ := fn_okB ok h.1
      simp only [ev]
      exact se_cbo ok.K R g1 g2 (mEs_ok as h.2 ok) (by rw [evs_length])
    · cases h
  | .cpr k src own tg elt cond, Γ, X, W, e, h, ok => by
    unfold mE at h
    split at h
    · rename_i el t it ifs as scope pos
      simp only [Bool.and_eq_true, List.all_eq_true, decide_eq_true_eq] at h
      obtain ⟨⟨⟨⟨⟨⟨⟨h1, h2⟩, h3⟩, h4⟩, h5⟩, h6⟩, h7⟩, h8⟩ := h
      have h1 : as = 0 := by simpa using h1
      subst h1
      have bk := blk_ok ok h3
      have okB := ok.blk bk.kind bk.uniq
      simp only [ev]
      refine se_pv ok.K rfl ?_
      have e := ownN_snd (Γ := Γ) own
      rw [← e]
      refine pe_cpr ok.K ok.calm ok.nd (mSrc_ok src k h5 ok) bk (by rw [e]; exact h4) (fun s H Cl cl fp => tg_ok (okB s H Cl cl fp) tg h6) (fun s H Cl cl fp => ?_) (fun s H Cl cl fp => (mE_ok elt h7 (okB s H Cl cl fp)).pe) h2
      unfold condB at h8
      split at h8
      · rw [if_pos h8]
        exact pts_nil_ret
      · rw [Bool.and_eq_true, Bool.not_eq_true'] at h8
        rw [if_neg (by rw [h8.1]; decide)]
        exact pts_one (mE_ok cond h8.2 (okB s H Cl cl fp)).pt
      · cases h8
    · cases h
theorem mEs_ok : ∀ (as : List IE) {Γ : Ctx} {X : Cx} {W : XK} {es : List Expr}, mEs Γ as es = true → CtxOk Γ X T W G C → SEs X T W es (evs G C as)
  | [], Γ, X, W, es, h, ok => by
    unfold mEs at h
    split at h
    · simp only [evs]; exact .nil
    · cases h
  | a :: as, Γ, X, W, es, h, ok => by
    unfold mEs at h
    split at h
    · simp only [Bool.and_eq_true] at h
      simp only [evs]
      exact .cons h.1.1 (mE_ok a h.1.2 ok) (mEs_ok as h.2 ok)
    · cases h
theorem mSrc_ok : ∀ (as : List IE) (k : SrcK) {Γ : Ctx} {X : Cx} {W : XK} {t it : Expr}, mSrc Γ as k t it = true → CtxOk Γ X T W G C → SI X T W t it (srcM k (evs G C as))
  | [], k, Γ, X, W, t, it, h, ok => by simp [mSrc] at h
  | a :: r, k, Γ, X, W, t, it, h, ok => by
    unfold mSrc at h
    cases k with
    | seq =>
      simp only [Bool.and_eq_true] at h
      have hr : r = [] := by simpa using h.1
      subst hr
      simp only [evs]
      exact si_seq ok.K (mE_ok a h.2 ok)
    | rng =>
      simp only at h
      split at h
      · rename_i x p es pos
        simp only [Bool.and_eq_true] at h
        obtain ⟨⟨⟨h1, h2⟩, h3⟩, h4⟩ := h
        obtain ⟨rfl, g1, g2⟩ := fr_ok ok h1
        match es, h2, h3, h4 with
        | [y], h2, h3, h4 =>
          simp only [Bool.and_eq_true] at h4
          have q := mEs_ok r h4.2 ok
          cases r with
          | nil =>
            simp only [evs]
            exact si_rng1 g1 g2 (by simpa using h2) (mE_ok a h4.1 ok)
          | cons b r => simp [mEs] at h4
        | [y, z], h2, h3, h4 =>
          simp only [Bool.and_eq_true] at h4
          simp only [List.all_cons, List.all_nil, Bool.and_true, Bool.and_eq_true] at h2
          cases r with
          | nil => simp [mEs] at h4
          | cons b r =>
            have q := mEs_ok (b :: r) h4.2 ok
            cases r with
            | nil =>
              simp only [evs] at q ⊢
              cases q with
              | cons q1 q2 _ => exact si_rng2 g1 g2 h2.1 h2.2 (mE_ok a h4.1 ok) q2
            | cons c r => simp [mEs] at h4
        | [], _, h3, _ => simp at h3
        | _ :: _ :: _ :: _, _, h3, _ => simp at h3
      · cases h
    | zip =>
      simp only at h
      split at h
      · rename_i x p y z pos
        simp only [Bool.and_eq_true] at h
        obtain ⟨⟨⟨⟨⟨h0, h1⟩, h2⟩, h3⟩, h4⟩, h5⟩ := h
        obtain ⟨rfl, g1, g2⟩ := fr_ok ok h1
        cases t <;> try cases h0
        cases r with
        | nil => simp [mEs] at h5
        | cons b r =>
          have q := mEs_ok (b :: r) h5 ok
          cases r with
          | nil =>
            simp only [evs] at q ⊢
            cases q with
            | cons q1 q2 _ => exact si_zip ok.K g1 g2 h2 h3 (mE_ok a h4 ok) q2
          | cons c r => simp [mEs] at h5
      · cases h
    | enm =>
      simp only at h
      split at h
      · rename_i x p y pos
        simp only [Bool.and_eq_true] at h
        obtain ⟨⟨⟨⟨h0, h1⟩, h2⟩, h4⟩, h5⟩ := h
        obtain ⟨rfl, g1, g2⟩ := fr_ok ok h1
        have hr : r = [] := by simpa using h5
        subst hr
        cases t <;> try cases h0
        simp only [evs]
        exact si_enm ok.K g1 g2 h2 (mE_ok a h4 ok)
      · cases h
end
end
end IR
end
section
set_option Elab.async false
set_option linter.all false
set_option maxRecDepth 100000
set_option maxHeartbeats 8000000
/-! ICk7: the check of statements, sound. -/
namespace IR
open PySem PySem.Spec L2

/-- a comprehension's value that is stored straight -/
def swB (Γ : Ctx) (x : Str) (px : Pos) : Expr → Bool
  | .ListComp _ _ s p => (Γ.sc.lookup x == some .local) && px.line == p.line && !(s.names.any fun (n, k) => n == x && (k == .local || k == .cell))
  | _ => false
def LOp.name : LOp → Str
  | .append => "append"
  | .extend => "extend"
  | .reverse => "reverse"
  | .clear => "clear"
def nameT : Expr → Bool
  | .Name _ _ => true
  | _ => false
/-- a slot that may be stored -/
def pnB (Γ : Ctx) (i : Nat) : Bool := !Γ.pin || i != 0
mutual
def mS (Γ : Ctx) : IS → Stmt → Bool
  | .pass, s => (match s with
    | .Pass _ => true
    | .Expr (.Constant (.str _) _ _) _ => true
    | _ => false)
  | .brk, s => (match s with
    | .Break _ => true
    | _ => false)
  | .cnt, s => (match s with
    | .Continue _ => true
    | _ => false)
  | .nev, _ => true
  | .asg tg e, s => (match s with
    | .Assign [t] v _ => noStar t && tgB Γ tg t && mE Γ e v && (noComp v || !nameT t) && swapKept Γ.sc t v && tg.slots.all (pnB Γ)
    | _ => false)
  | .set i e, s => (match s with
    | .Assign [.Name x p] v _ => pnB Γ i && storB Γ i x && mE Γ e v && (noComp v || swB Γ x p v || (match v with
      | .ListComp _ _ s q => !(p.line == q.line)
      | _ => false))
    | _ => false)
  | .par i j a b, s => (match s with
    | .Assign [.Tuple [.Name x px, .Name y py] _ _] (.Tuple [ea, eb] _ _) _ => pnB Γ i && pnB Γ j && storB Γ i x && storB Γ j y && i != j && parOk Γ.sc x y px py ea eb && mE Γ a ea && mE Γ b eb
    | _ => false)
  | .aug i sub e, s => (match s with
    | .AugAssign (.Name x _) op v _ => pnB Γ i && storB Γ i x && decide (op = (if sub then .Sub else .Add)) && mE Γ e v
    | _ => false)
  | .sto i k e, s => (match s with
    | .Assign [.Subscript (.Name x _) ke _] v _ => nmB Γ i x && mE Γ k ke && mE Γ e v && noComp v && plainSub ke
    | _ => false)
  | .lop o i es, s => (match s with
    | .Expr (.Call (.Attribute (.Name x _) m ap) args [] cp) _ => nmB Γ i x && decide (m = o.name) && ap.endLine == cp.line && decide (args.length < 30) && mEs Γ es args
    | _ => false)
  | .exp e, s => (match s with
    | .Expr v _ => mE Γ e v && noComp v
    | _ => false)
  | .iff t a b, s => (match s with
    | .If c x y _ => mE Γ t c && mSs Γ a x && mSs Γ b y
    | _ => false)
  | .whl t b, s => (match s with
    | .While c x [] _ => mE Γ t c && mSs Γ b x
    | _ => false)
  | .fr k src tg b, s => (match s with
    | .For t it x [] _ => noSet it && mSrc Γ src k t it && tgB Γ tg t && mSs Γ b x && tg.slots.all (pnB Γ)
    | _ => false)
  | .ret e, s => (match s with
    | .Return (some v) _ => mE Γ e v
    | _ => false)
  | .retN, s => (match s with
    | .Return none _ => true
    | _ => false)
def mSs (Γ : Ctx) : List IS → List Stmt → Bool
  | [], ss => (match ss with
    | [] => true
    | _ => false)
  | a :: as, ss => (match ss with
    | s :: r => mS Γ a s && mSs Γ as r
    | _ => false)
end
section
variable {T : Tbl} {G : GF} {C : Nat → Option D} {N : Nat} {Γ : Ctx} {X : Cx} {W : XK} {pn : Option V}
theorem pn_ok (hz : Γ.pin = false → pn = none) {i : Nat} (h : pnB Γ i = true) : pn = none ∨ i ≠ 0 := by
  unfold pnB at h
  cases hp : Γ.pin with
  | false => exact .inl (hz hp)
  | true => rw [hp] at h; exact .inr (by simpa using h)
theorem pns_ok (hz : Γ.pin = false → pn = none) {js : List Nat} (h : js.all (pnB Γ) = true) : pn = none ∨ 0 ∉ js := by
  cases hp : Γ.pin with
  | false => exact .inl (hz hp)
  | true =>
    refine .inr fun z => ?_
    have := List.all_eq_true.mp h 0 z
    unfold pnB at this
    rw [hp] at this
    simp at this
theorem tS_ret {f : Fl} {Z : Ends} {σ : L2.St} {H : Hp} (h : tS T pn W (M.ret f) Z σ H) : match f with
    | .next => Z.nx σ H
    | .brk => Z.bk σ H
    | .cnt => Z.ct σ H
    | .ret o => ∀ v fp F', RO T F' H v o fp → True := by
  obtain ⟨F, ρ, fps, r, ok, hp, e, p⟩ := h
  cases e
  cases f with
  | next => exact p F fps σ H ok hp Stp.refl
  | brk => exact p F fps σ H ok hp Stp.refl
  | cnt => exact p F fps σ H ok hp Stp.refl
  | ret o => exact fun _ _ _ _ => trivial
theorem tS_retN {Z : Ends} {σ : L2.St} {H : Hp} (h : tS T pn W (M.ret (.ret (.d .non))) Z σ H) : Z.rt .non H := by
  obtain ⟨F, ρ, fps, r, ok, hp, e, p⟩ := h
  cases e
  exact p .non [] F fps σ H ok hp (.d .non) (by simpa using ok.nd) (by simp) (by simpa using Stp.refl)
theorem tS_stuck {Z : Ends} {σ : L2.St} {H : Hp} (h : tS T pn W M.stuck Z σ H) : False := by
  obtain ⟨F, ρ, fps, r, ok, hp, e, p⟩ := h
  cases e
theorem ip2 (s : Bool) : PIp X (if s then .Sub else .Add) (ipI2 s) := by
  cases s with
  | false => exact ip_add
  | true => exact ip_sub
/-- a list's own method, as a statement -/
theorem ps_lop (o : LOp) {i : Nat} {x : Str} {p ap cp sp : Pos} {es : List Expr} {as : List EV} (hK : X.K = T.K) (hx : PE X (.Name x p) (tVar i)) (h : SEs X T W es as) (hl : (ap.endLine == cp.line) = true) (h30 : es.length < 30) :
    PS X (.Expr (.Call (.Attribute (.Name x p) o.name ap) es [] cp) sp) (tS T pn W (M.bind (mLst i some) fun _ => M.bind (seqD as) fun ys => M.bind (mLst i (o.f ys)) fun _ => M.ret .next)) := by
  have few : ∀ {e : Expr} {es : List Expr} {as : List EV}, SEs X T W (e :: es) as → (e :: es).length < 30 → ((backTo cp (starEach (e :: es) X.env)).all (fun x => !x.1) && (backToKw cp (keywordEach [] X.env)).all (fun x => x.1.isSome)
      && decide ((e :: es).length + ([] : List Keyword).length + (if ([] : List Keyword).isEmpty then 0 else 1) < 30)) = true := fun {e es as} h h30 => by
    rw [(star_all cp X.env h.star).1]
    have e : (backToKw cp (keywordEach [] X.env)).all (fun x => x.1.isSome) = true := rfl
    rw [e]
    simpa using h30
  have fin : ∀ Z σ H, tS T pn W (M.bind (mLst i some) fun _ => M.bind (seqD as) fun ys => M.bind (mLst i (o.f ys)) fun _ => M.ret .next) Z σ H →
      tVar i σ H fun v H1 => tyV X.K "list" v H1 ∧ tArgs T W as σ H1 fun ws H2 => rLop o v ws H2 fun _ H3 => Z.nx σ H3 := fun Z σ H q => by
    obtain ⟨a, e1, ⟨vs, e2⟩, q⟩ := rd_lop q
    exact ⟨.ref a, e1, .inl ⟨rfl, vs, SqL.of e2⟩, q⟩
  cases h with
  | nil =>
    cases o with
    | append =>
      refine PS.imp ps_never fun Z σ H q => ?_
      obtain ⟨a, _, _, q⟩ := rd_lop q
      have q : rLop .append (.ref a) [] H fun _ H2 => Z.nx σ H2 := q
      obtain ⟨l, xs, y, _, e, _⟩ := q
      cases e
    | extend =>
      refine PS.imp ps_never fun Z σ H q => ?_
      obtain ⟨a, _, _, q⟩ := rd_lop q
      have q : rLop .extend (.ref a) [] H fun _ H2 => Z.nx σ H2 := q
      obtain ⟨l, b, xs, zs, _, e, _⟩ := q
      cases e
    | reverse => exact PS.imp (ps_expr (pe_bm0 PySem.F.plainAttrs_list PySem.F.slot_list_reverse PySem.F.type_list_reverse mt_reverse hx rfl hl) rfl) fin
    | clear => exact PS.imp (ps_expr (pe_bm0 PySem.F.plainAttrs_list PySem.F.slot_list_clear PySem.F.type_list_clear mt_clear hx rfl hl) rfl) fin
  | cons hs h1 hr =>
    have A := SEs.pa (.cons hs h1 hr)
    cases o with
    | append => exact PS.imp (ps_expr (pe_bm PySem.F.plainAttrs_list PySem.F.slot_list_append PySem.F.type_list_append mt_append hx A rfl (few (.cons hs h1 hr) h30) hl (star_one hs _ _) (star_back _ _ hr.star)) rfl) fin
    | extend => exact PS.imp (ps_expr (pe_bm PySem.F.plainAttrs_list PySem.F.slot_list_extend PySem.F.type_list_extend mt_extend hx A rfl (few (.cons hs h1 hr) h30) hl (star_one hs _ _) (star_back _ _ hr.star)) rfl) fin
    | reverse => exact PS.imp (ps_expr (pe_bm PySem.F.plainAttrs_list PySem.F.slot_list_reverse PySem.F.type_list_reverse mt_reverse hx A rfl (few (.cons hs h1 hr) h30) hl (star_one hs _ _) (star_back _ _ hr.star)) rfl) fin
    | clear => exact PS.imp (ps_expr (pe_bm PySem.F.plainAttrs_list PySem.F.slot_list_clear PySem.F.type_list_clear mt_clear hx A rfl (few (.cons hs h1 hr) h30) hl (star_one hs _ _) (star_back _ _ hr.star)) rfl) fin
theorem swB_ok (ok : CtxOk Γ X T W G C) {x : Str} {px : Pos} {l : Nat} {v : Expr} (h : swB Γ x px v = true) : swapsWith v (some (.Name x px)) l X.env = pure true := by
  cases v <;> try cases h
  rename_i el gs s p
  have hb : X.env.blockKind = .function := by unfold Env.blockKind; rw [ok.kind]; rfl
  have h : ((Γ.sc.lookup x == some .local) && px.line == p.line && !(s.names.any fun (n, k) => n == x && (k == .local || k == .cell))) = true := h
  unfold swapsWith
  simp only
  have e : (X.env.kindOf x == some .local) = (Γ.sc.lookup x == some .local) := by unfold Env.kindOf; rw [ok.sc]
  rw [hb, e]
  show pure ((ScopeKind.function == ScopeKind.function) && _ && _ && _) = _
  have e2 : (ScopeKind.function == ScopeKind.function) = true := rfl
  rw [e2, Bool.true_and]
  exact congrArg pure h
theorem sw_line (ok : CtxOk Γ X T W G C) {x : Str} {px : Pos} {l : Nat} {el : Expr} {gs : List Comprehension} {s : Scope} {q : Pos} (h : (!(px.line == q.line)) = true) : swapsWith (.ListComp el gs s q) (some (.Name x px)) l X.env = pure false := by
  unfold swapsWith
  simp only
  have h : (px.line == q.line) = false := by simpa using h
  show pure (_ && (px.line == q.line) && _) = _
  rw [h, Bool.and_false, Bool.false_and]
theorem cpr_set (ok : CtxOk Γ X T W G C) {i : Nat} {x : Str} {px pos : Pos} {v : Expr} {e : IE} (hz : pn = none ∨ i ≠ 0) (h1 : X.N[i]? = some x) (hx : X.env.scope.names.lookup x = some .local) (h2 : mE Γ e v = true) (h3 : swB Γ x px v = true) :
    PS X (.Assign [.Name x px] v pos) (tS T pn W (M.bind (valOf (ev G C e)) fun o => M.bind (mPut i o) fun _ => M.ret .next)) := by
  have sw := swB_ok (l := pos.line) ok h3
  cases v <;> try cases h3
  cases e <;> unfold mE at h2 <;> try cases h2
  rename_i k src own tg elt cond
  split at h2
  · rename_i el t it ifs as scope pos' eq
    simp only [Bool.and_eq_true, List.all_eq_true, decide_eq_true_eq] at h2
    obtain ⟨⟨⟨⟨⟨⟨⟨q1, q2⟩, q3⟩, q4⟩, q5⟩, q6⟩, q7⟩, q8⟩ := h2
    have q1 : as = 0 := by simpa using q1
    subst q1
    cases eq
    have bk := blk_ok ok q3
    have okB := ok.blk bk.kind bk.uniq
    simp only [ev]
    have e := ownN_snd (Γ := Γ) own
    rw [← e]
    refine ps_cpr hz ok.K ok.calm ok.nd h1 hx sw (mSrc_ok src k q5 ok) bk (by rw [e]; exact q4) (fun s H Cl cl fp => tg_ok (okB s H Cl cl fp) tg q6) (fun s H Cl cl fp => ?_) (fun s H Cl cl fp => (mE_ok elt q7 (okB s H Cl cl fp)).pe) q2
    unfold condB at q8
    split at q8
    · rw [if_pos q8]
      exact pts_nil_ret
    · rw [Bool.and_eq_true, Bool.not_eq_true'] at q8
      rw [if_neg (by rw [q8.1]; decide)]
      exact pts_one (mE_ok cond q8.2 (okB s H Cl cl fp)).pt
    · cases q8
  · cases h2
mutual
theorem mS_ok (hz : Γ.pin = false → pn = none) (own : PassesOwn (model X.prog X.w) X.A X.env X.xe) (ok : CtxOk Γ X T W G C) : ∀ (ir : IS) {s : Stmt}, mS Γ ir s = true → PS X s (tS T pn W (evS G C N ir))
  | .pass, s, h => by
    unfold mS at h
    unfold evS
    split at h
    · exact PS.imp ps_pass fun Z σ H q => tS_ret q
    · exact PS.imp ps_doc fun Z σ H q => tS_ret q
    · cases h
  | .brk, s, h => by
    unfold mS at h
    unfold evS
    split at h
    · exact PS.imp ps_break fun Z σ H q => tS_ret q
    · cases h
  | .cnt, s, h => by
    unfold mS at h
    unfold evS
    split at h
    · exact PS.imp ps_continue fun Z σ H q => tS_ret q
    · cases h
  | .nev, s, h => by
    unfold evS
    exact PS.imp ps_never fun Z σ H q => tS_stuck q
  | .asg tg e, s, h => by
    unfold mS at h
    unfold evS
    split at h
    · rename_i t v pos
      simp only [Bool.and_eq_true, Bool.or_eq_true, Bool.not_eq_true'] at h
      obtain ⟨⟨⟨⟨⟨h1, h2⟩, h3⟩, h4⟩, h5⟩, h6⟩ := h
      refine PS.imp (ps_asg (mE_ok e h3 ok).pe (tg_ok ok tg h2) ?_ (swap_kept ok.sc h5) (by rw [assign_one h1]; rfl)) fun Z σ H q => rd_asg (pns_ok hz h6) q
      show swapsWith v (some t) pos.line X.env = pure false
      rcases h4 with h4 | h4
      · exact swaps_no h4 _ _ _
      · cases t <;> first | (exact absurd (show true = false from h4) (by decide)) | skip
        all_goals cases v <;> rfl
    · cases h
  | .set i e, s, h => by
    unfold mS at h
    unfold evS
    split at h
    · rename_i x p v pos
      simp only [Bool.and_eq_true, Bool.or_eq_true] at h
      obtain ⟨⟨⟨h0, h1⟩, h2⟩, h3⟩ := h
      obtain ⟨k1, k2, k3⟩ := stor_ok ok h1
      have plain : swapsWith v (some (.Name x p)) pos.line X.env = pure false → PS X (.Assign [.Name x p] v pos) (tS T pn W (M.bind (valOf (ev G C e)) fun o => M.bind (mPut i o) fun _ => M.ret .next)) := fun hs =>
        PS.imp (ps_set ok.nd k1 k2 (mE_ok e h2 ok).pe hs k3) fun Z σ H q => rd_set (pn_ok hz h0) q
      rcases h3 with (h3 | h3) | h3
      · exact plain (swaps_no h3 _ _ _)
      · refine cpr_set ok (pn_ok hz h0) k1 ?_ h2 h3
        cases v <;> try cases h3
        have h3 : ((Γ.sc.lookup x == some .local) && _ && _) = true := h3
        simp only [Bool.and_eq_true, beq_iff_eq] at h3
        rw [ok.sc]
        exact h3.1.1
      · cases v <;> try cases h3
        exact plain (sw_line ok h3)
    · cases h
  | .par i j a b, s, h => by
    unfold mS at h
    unfold evS
    split at h
    · rename_i x px y py _ _ ea eb _ _ pos
      simp only [Bool.and_eq_true, bne_iff_ne, ne_eq] at h
      obtain ⟨⟨⟨⟨⟨⟨⟨z1, z2⟩, h1⟩, h2⟩, h3⟩, h4⟩, h5⟩, h6⟩ := h
      obtain ⟨k1, k2, k3⟩ := stor_ok ok h1
      obtain ⟨l1, l2, l3⟩ := stor_ok ok h2
      have h4' : parOk X.env.scope.names x y px py ea eb = true := by rw [ok.sc]; exact h4
      unfold parOk at h4
      simp only [Bool.and_eq_true, beq_iff_eq] at h4
      exact PS.imp (ps_par ok.calm ok.nd k1 l1 h3 (by rw [ok.sc]; exact h4.1.1.1.1.1.1.1) (by rw [ok.sc]; exact h4.1.1.1.1.1.1.2) (SEs.pa (.cons h4.1.1.1.2 (mE_ok a h5 ok) (.cons h4.1.1.2 (mE_ok b h6 ok) .nil))) (par_ok ok.kind h4') rfl) fun Z σ H q => rd_par h3 (by
        rcases pn_ok hz z1 with z | z
        · exact .inl z
        · exact (pn_ok hz z2).imp id fun w => ⟨z, w⟩) q
    · cases h
  | .aug i sub e, s, h => by
    unfold mS at h
    unfold evS
    split at h
    · simp only [Bool.and_eq_true, decide_eq_true_eq] at h
      obtain ⟨k1, k2, k3⟩ := stor_ok ok h.1.1.2
      rw [h.1.2]
      exact PS.imp (ps_aug ok.nd k1 k2 (mE_ok e h.2 ok).pe (ip2 sub) k3) fun Z σ H q => rd_aug (pn_ok hz h.1.1.1) q
    · cases h
  | .sto i k e, s, h => by
    unfold mS at h
    unfold evS
    split at h
    · simp only [Bool.and_eq_true] at h
      obtain ⟨⟨⟨⟨h1, h2⟩, h3⟩, h4⟩, h5⟩ := h
      rename_i x p ke p1 v pos
      have hp : ∀ u, assign (.Subscript (.Name x p) ke p1) X.env u = (do
          let ov ← holding [u] (eval (.Name x p) X.env)
          let iv ← holding [u, ov] (eval ke X.env)
          standAt p1
          holding [u, ov, iv] (setItem ov iv u)
          release [u, ov, iv] []) := fun u => by
        cases ke <;> first | rfl | cases h5
      have sw : swapsWithSole [.Subscript (.Name x p) ke p1] v pos.line X.env = pure false := by
        show swapsWith v (some (.Subscript (.Name x p) ke p1)) pos.line X.env = pure false
        exact swaps_no h4 _ _ _
      exact PS.imp (ps_asg (mE_ok e h3 ok).pe (pg_sub (nm_ok ok h1) (mE_ok k h2 ok).pe set_list hp) sw rfl rfl) fun Z σ H q => rd_sto q
    · cases h
  | .lop o i es, s, h => by
    unfold mS at h
    unfold evS
    split at h
    · simp only [Bool.and_eq_true, decide_eq_true_eq] at h
      obtain ⟨⟨⟨⟨h1, h2⟩, h3⟩, h4⟩, h5⟩ := h
      rw [h2]
      exact ps_lop o ok.K (nm_ok ok h1) (mEs_ok es h5 ok) h3 h4
    · cases h
  | .exp e, s, h => by
    unfold mS at h
    unfold evS
    split at h
    · rw [Bool.and_eq_true] at h
      exact PS.imp (ps_expr (mE_ok e h.1 ok).pe (swaps_no h.2 _ _ _)) fun Z σ H q => rd_exp q
    · cases h
  | .iff t a b, s, h => by
    unfold mS at h
    unfold evS
    split at h
    · simp only [Bool.and_eq_true] at h
      exact PS.imp (ps_if (mE_ok t h.1.1 ok).pt (mSs_ok hz own ok a h.1.2) (mSs_ok hz own ok b h.2)) fun Z σ H q => rd_iff q
    · cases h
  | .whl t b, s, h => by
    unfold mS at h
    unfold evS
    split at h
    · simp only [Bool.and_eq_true] at h
      exact PS.imp (ps_while own (mE_ok t h.1 ok).pt (mSs_ok hz own ok b h.2)) fun Z σ H q => rd_whl q
    · cases h
  | .fr k src tg b, s, h => by
    unfold mS at h
    unfold evS
    split at h
    · simp only [Bool.and_eq_true] at h
      obtain ⟨⟨⟨⟨h1, h2⟩, h3⟩, h4⟩, h5⟩ := h
      obtain ⟨wi, i1, i2⟩ := mSrc_ok src k h2 ok
      refine PS.imp (ps_for own ok.calm i1 (tg_ok ok tg h3) (mSs_ok hz own ok b h4) (set_fold h1 _)) fun Z σ H q => ?_
      split at q
      · rename_i e
        refine rd_for (pns_ok hz h5) (fun σ H R q => i2 σ H R ?_) q
        rw [e]
        exact q
      · exact (tS_stuck q).elim
    · cases h
  | .ret e, s, h => by
    unfold mS at h
    unfold evS
    split at h
    · exact PS.imp (ps_ret (mE_ok e h ok).pe) fun Z σ H q => rd_ret q
    · cases h
  | .retN, s, h => by
    unfold mS at h
    unfold evS
    split at h
    · exact PS.imp ps_retN fun Z σ H q => tS_retN q
    · cases h
theorem mSs_ok (hz : Γ.pin = false → pn = none) (own : PassesOwn (model X.prog X.w) X.A X.env X.xe) (ok : CtxOk Γ X T W G C) : ∀ (irs : List IS) {ss : List Stmt}, mSs Γ irs ss = true → PSs X ss (tS T pn W (evSs G C N irs))
  | [], ss, h => by
    unfold mSs at h
    unfold evSs
    split at h
    · exact PSs.imp pss_nil fun Z σ H q => tS_ret q
    · cases h
  | a :: as, ss, h => by
    unfold mSs at h
    unfold evSs
    split at h
    · rw [Bool.and_eq_true] at h
      exact PSs.imp (pss_cons (mS_ok hz own ok a h.1) (mSs_ok hz own ok as h.2)) fun Z σ H q => rd_seq q
    · cases h
end
end
end IR
end
section
set_option Elab.async false
set_option linter.all false
set_option maxRecDepth 100000
set_option maxHeartbeats 8000000
/-! ICk8: defs and programs as data; each def keeps its promise. -/
namespace IR
open PySem PySem.Spec L2

/-! ### defs -/
structure Def where
  n : Nat
  io : Bool
  m : Nat
  body : List IS
def startE (m : Nat) (os : List OV) : En := os.map some ++ List.replicate (m - os.length) none
def slot0 (ρ : En) : Option OV := match ρ[0]? with
  | some (some o) => some o
  | _ => none
def endP : Option (Res Fl × En) → Option (Res OV × Option OV)
  | some (.ok .next, _) => some (.ok (.d .non), none)
  | some (.ok (.ret o), _) => some (.ok o, none)
  | some (.err x, _) => some (.err x, none)
  | _ => none
def endIO : Option (Res Fl × En) → Option (Res OV × Option OV)
  | some (.ok .next, ρ) => (slot0 ρ).map fun o => (.ok (.d .non), some o)
  | some (.ok (.ret v), ρ) => (slot0 ρ).map fun o => (.ok v, some o)
  | some (.err x, ρ) => (slot0 ρ).map fun o => (.err x, some o)
  | _ => none
def runD (G : GF) (C : Nat → Option D) (N : Nat) (d : Def) : Option OV → List D → Option (Res OV × Option OV)
  | none, xs => if d.io then none else endP (evSs G C N d.body (startE d.m (xs.map .d)))
  | some o, xs => if d.io then endIO (evSs G C N d.body (startE d.m (o :: xs.map .d))) else none
/-- the program, so many calls deep -/
def evP (P : Nat → Option Def) (C : Nat → Option D) (N : Nat) : Nat → GF
  | 0 => fun _ _ _ => none
  | k + 1 => fun f o xs => match P f with
    | some d => runD (evP P C N k) C N d o xs
    | none => none

section
variable {T : Tbl} {F H : Hp}
theorem ok_startG {vs : List V} {os : List OV} {fpl : List (List Addr)} (k : Nat) (s : Same F H) (h1 : os.length = vs.length) (h2 : fpl.length = vs.length) (hs : ∀ (i : Nat) (o : OV), os[i]? = some o → ∃ v fp, vs[i]? = some v ∧ fpl[i]? = some fp ∧ RO T F H v o fp)
    (nd : fpl.flatten.Nodup) (fr : ∀ a ∈ fpl.flatten, F a = none) (live : ∀ a ∈ fpl.flatten, H a ≠ none) :
    Ok T F (os.map some ++ List.replicate k none) (fpl ++ List.replicate k []) (vs.map some ++ List.replicate k none) H ∧ (fpl ++ List.replicate k []).flatten = fpl.flatten := by
  have e : (fpl ++ List.replicate k []).flatten = fpl.flatten := by simp
  refine ⟨⟨s, by simp [h1], by simp [h1, h2], fun i o hi => ?_, by rw [e]; exact nd, by rw [e]; exact fr, by rw [e]; exact live⟩, e⟩
  by_cases hl : i < os.length
  · rw [List.getElem?_append_left (by simpa using hl), List.getElem?_map] at hi
    cases ho : os[i]? with
    | none => rw [ho] at hi; cases hi
    | some u =>
      rw [ho] at hi
      cases hi
      obtain ⟨v, fp, e1, e2, r⟩ := hs i o ho
      refine ⟨v, fp, ?_, ?_, r⟩
      · rw [List.getElem?_append_left (by rw [List.length_map, ← h1]; exact hl), List.getElem?_map, e1]
        rfl
      · rw [List.getElem?_append_left (by rw [h2, ← h1]; exact hl)]
        exact e2
  · rw [List.getElem?_append_right (by simpa using hl)] at hi
    simp only [List.getElem?_replicate] at hi
    split at hi <;> cases hi
theorem ok_startP {m : Nat} {N : List Str} {vs : List V} {xs : List D} (s : Same F H) (r : RDs T F vs xs) (hN : N.length = m) : ∃ fps, Ok T F (startE m (xs.map .d)) fps (start N vs) H ∧ fps.flatten = [] := by
  have hl : (xs.map OV.d).length = vs.length := by rw [List.length_map, r.length]
  obtain ⟨k, e⟩ := ok_startG (T := T) (vs := vs) (os := xs.map .d) (fpl := List.replicate vs.length []) (m - vs.length) s hl (by simp) (fun i o hi => by
    rw [List.getElem?_map] at hi
    cases hx : xs[i]? with
    | none => rw [hx] at hi; cases hi
    | some x =>
      rw [hx] at hi
      cases hi
      obtain ⟨v, e1, e2⟩ := r.get hx
      refine ⟨v, [], e1, ?_, .d e2⟩
      rw [List.getElem?_replicate, if_pos (List.getElem?_eq_some_iff.mp e1).1]) (by simp) (by simp) (by simp)
  refine ⟨_, ?_, e.trans (by simp)⟩
  unfold startE L2.start
  rw [hl, hN]
  exact k
theorem ok_startIO {m : Nat} {N : List Str} {v : V} {o : OV} {fp : List Addr} {vs : List V} {xs : List D} (s : Same F H) (ro : RO T F H v o fp) (r : RDs T F vs xs) (nd : fp.Nodup) (fr : ∀ a ∈ fp, F a = none) (hN : N.length = m) :
    ∃ fps, Ok T F (startE m (o :: xs.map .d)) fps (start N (v :: vs)) H ∧ fps.flatten = fp := by
  have hl : (o :: xs.map OV.d).length = (v :: vs).length := by simp [r.length]
  have ef : (fp :: List.replicate vs.length ([] : List Addr)).flatten = fp := by simp
  obtain ⟨k, e⟩ := ok_startG (T := T) (vs := v :: vs) (os := o :: xs.map .d) (fpl := fp :: List.replicate vs.length []) (m - (v :: vs).length) s hl (by simp) (fun i o' hi => by
    cases i with
    | zero =>
      simp at hi
      subst hi
      exact ⟨v, fp, by simp, by simp, ro⟩
    | succ i =>
      rw [List.getElem?_cons_succ, List.getElem?_map] at hi
      cases hx : xs[i]? with
      | none => rw [hx] at hi; cases hi
      | some x =>
        rw [hx] at hi
        cases hi
        obtain ⟨v, e1, e2⟩ := r.get hx
        refine ⟨v, [], by rw [List.getElem?_cons_succ]; exact e1, ?_, .d e2⟩
        rw [List.getElem?_cons_succ, List.getElem?_replicate, if_pos (List.getElem?_eq_some_iff.mp e1).1]) (by rw [ef]; exact nd) (by rw [ef]; exact fr) (by rw [ef]; exact ro.live)
  refine ⟨_, ?_, e.trans ef⟩
  unfold startE L2.start
  rw [hl, hN]
  exact k
end

/-! ### a def's promise -/
section
variable {P : Program} {w : World} {K : PySem.W.Frag} {mg : Str → Option Value} {base : Heap} {T : Tbl} {G : GF} {C : Nat → Option D} {N : Nat}
theorem cx_ok {names : List Str} {qual : Str} {scope : Scope} {f : Addr} {cdv : Value} {A : Around} {outer : List Env} {s : Shared} {H : Hp} {E : XK} {k : Nat} {Γ : Ctx} (hK : K = T.K) (nd : names.Nodup) (hk : scope.kind = .function) (hr : Room k (A.deeper (PyProof.Rows.envOfC qual scope s.heap.objs.size f cdv)))
    (h1 : Γ.names = names) (h2 : Γ.sc = scope.names)
    (fn : ∀ x q dfl, Γ.lk.lookup x = some q → dfl ∈ q.dfls → ∀ A, Room k A → FnQ P w K mg base A T G x q.f q.n q.io dfl)
    (con : ∀ x n, Γ.cons.lookup x = some n → ∃ v u d, mg x = some u ∧ RelV v u ∧ C n = some d ∧ ∀ F, RD T F v d)
    (free : ∀ x ∈ Γ.free, mg x = none) : CtxOk Γ (cxOf (L2.CX P w) P w K mg base names qual scope f cdv A outer s H E) T E G C where
  nm := h1.symm
  nd := nd
  calm := rfl
  K := hK
  sc := h2.symm
  kind := hk
  units := by have := hr.un; show (A.deeper _).units + 65 < cLine; omega
  fn := fun x q dfl e hd => fn x q dfl e hd _ hr
  con := con
  free := free
  ps := passes_call (W := fun cls d _ H => E cls d H) (takes_of rfl rfl rfl rfl) fun _ _ _ _ h => h
  stor := fun _ _ => rfl
theorem own_ok {names : List Str} {qual : Str} {scope : Scope} {f : Addr} {cdv : Value} {A : Around} {outer : List Env} {s : Shared} {H : Hp} {E : XK} :
    PassesOwn (model P w) (cxOf (L2.CX P w) P w K mg base names qual scope f cdv A outer s H E).A (cxOf (L2.CX P w) P w K mg base names qual scope f cdv A outer s H E).env (cxOf (L2.CX P w) P w K mg base names qual scope f cdv A outer s H E).xe :=
  passes_of (X := cxOf (L2.CX P w) P w K mg base names qual scope f cdv A outer s H E) rfl
theorem def_ok {d : Def} {k fi : Nat} {P0 : Nat → Option Def} {names ps : List Str} {x qual : Str} {params : Arguments} {body : List Stmt} {scope : Scope} {dvs : List V} {kws : List (Str × V)} {f : Addr} {fd : FuncData} {Γ : Ctx} (hK : K = T.K)
    (Fd : FunD K x qual params body scope dvs kws f fd) (S : FnScope names ps scope) (hn : ps.length = d.n) (hm : names.length = d.m) (hd : P0 fi = some d) (hck : mSs Γ d.body body = true) (hpin : Γ.pin = d.io)
    (h1 : Γ.names = names) (h2 : Γ.sc = scope.names)
    (fn : ∀ x q dfl, Γ.lk.lookup x = some q → dfl ∈ q.dfls → ∀ A, Room k A → FnQ P w K mg base A T (evP P0 C N k) x q.f q.n q.io dfl)
    (con : ∀ x n, Γ.cons.lookup x = some n → ∃ v u d, mg x = some u ∧ RelV v u ∧ C n = some d ∧ ∀ F, RD T F v d)
    (free : ∀ x ∈ Γ.free, mg x = none) : FnOk P w K mg base (L2.CX P w) (k + 1) f fd ps (if d.io then spIO T d.n (gIO (evP P0 C N (k + 1)) fi) else spP T d.n (gP (evP P0 C N (k + 1)) fi)) := by
  have hps : ps.length ≤ names.length := by have := congrArg List.length S.pre; rw [List.length_take] at this; omega
  cases hio : d.io with
  | false =>
    rw [if_neg (by decide)]
    refine Fd.ok S (fun vs H Q E h => h.1.trans hn.symm) (fun cdv A outer s H vs Q E hr h => ?_)
    have ok := cx_ok (Γ := Γ) (outer := outer) (s := s) (H := H) (E := E) (A := A) (f := f) (cdv := cdv) (qual := qual) hK S.nd S.kind hr h1 h2 fn con free
    refine ⟨_, mSs_ok (N := N) (pn := none) (fun _ => rfl) own_ok ok d.body hck, ?_⟩
    obtain ⟨_, F, ds, r, s1, rv, hg, p⟩ := h
    unfold gP at hg
    split at hg
    · rename_i r' e
      cases hg
      have e : (match P0 fi with | some d => runD (evP P0 C N k) C N d none ds | none => none) = some (r, none) := e
      rw [hd] at e
      have e : runD (evP P0 C N k) C N d none ds = some (r, none) := e
      simp only [runD, hio, Bool.false_eq_true, if_false] at e
      obtain ⟨fps, ok0, ef⟩ := ok_startP (m := d.m) s1 rv hm
      cases he : evSs (evP P0 C N k) C N d.body (startE d.m (ds.map .d)) with
      | none => rw [he] at e; cases e
      | some pr =>
        rw [he] at e
        refine ⟨F, _, fps, pr, ok0, (fun v z => by cases z), he, ?_⟩
        rw [ef]
        obtain ⟨rr, ρ'⟩ := pr
        cases rr with
        | err y =>
          cases e
          exact fun cls dd F' fps' σ' H' o1 _ rx st => p cls dd F' H' o1.sub rx (st.less fun b hb => by simp at hb)
        | ok fl =>
          cases fl with
          | next =>
            cases e
            exact fun F' fps' σ' H' o1 _ st => p .non [] F' H' o1.sub (.d .non) List.nodup_nil (by simp) (st.less fun b hb => by simp at hb)
          | ret o =>
            cases e
            exact fun v fp F' fps' σ' H' o1 _ ro nd fr st => p v fp F' H' o1.sub ro (List.nodup_append.mp nd).1 fr (st.less fun b hb => List.mem_append_left _ hb)
          | brk => cases e
          | cnt => cases e
    · cases hg
  | true =>
    rw [if_pos rfl]
    refine Fd.ok S (fun vs H Q E h => h.1.trans hn.symm) (fun cdv A outer s H vs Q E hr h => ?_)
    have ok := cx_ok (Γ := Γ) (outer := outer) (s := s) (H := H) (E := E) (A := A) (f := f) (cdv := cdv) (qual := qual) hK S.nd S.kind hr h1 h2 fn con free
    obtain ⟨hlen, F, a, ws, o, fp, ds, r, rfl, s1, ro, nd0, fr0, rv, hg, p⟩ := h
    refine ⟨_, mSs_ok (N := N) (pn := some a) (fun z => by rw [hpin, hio] at z; cases z) own_ok ok d.body hck, ?_⟩
    unfold gIO at hg
    split at hg
    · rename_i r' o' e
      cases hg
      have e : (match P0 fi with | some d => runD (evP P0 C N k) C N d (some o) ds | none => none) = some (r', some o') := e
      rw [hd] at e
      have e : runD (evP P0 C N k) C N d (some o) ds = some (r', some o') := e
      simp only [runD, hio, if_true] at e
      obtain ⟨fps, ok0, ef⟩ := ok_startIO (m := d.m) s1 ro rv nd0 fr0 hm
      cases he : evSs (evP P0 C N k) C N d.body (startE d.m (o :: ds.map .d)) with
      | none => rw [he] at e; cases e
      | some pr =>
        rw [he] at e
        refine ⟨F, _, fps, pr, ok0, (fun v z => by cases z; rfl), he, ?_⟩
        rw [ef]
        obtain ⟨rr, ρ'⟩ := pr
        -- the first name's value at the end
        have last : ∀ {F' : Hp} {fps' : List (List Addr)} {σ' : L2.St} {H' : Hp} {u : OV}, Ok T F' ρ' fps' σ' H' → PinOk (some a) σ' → slot0 ρ' = some u → ∃ fq, fps'[0]? = some fq ∧ RO T F' H' a u fq := fun {F' fps' σ' H' u} o1 hp hs => by
          unfold slot0 at hs
          split at hs
          · rename_i u' e0
            cases hs
            obtain ⟨v, fq, e1, e2, r⟩ := o1.slot 0 _ e0
            rw [hp a rfl] at e1
            cases e1
            exact ⟨fq, e2, r⟩
          · cases hs
        cases rr with
        | err y =>
          simp only [endIO] at e
          cases hs : slot0 ρ' with
          | none => rw [hs] at e; cases e
          | some u =>
            rw [hs] at e
            cases e
            intro cls dd F' fps' σ' H' o1 hp rx st
            obtain ⟨fq, e2, r⟩ := last o1 hp hs
            exact p cls dd fq F' H' o1.sub rx r (flat_nodup o1.nd e2) (fun b hb => o1.fr b (mem_flat e2 hb)) (st.less fun b hb => mem_flat e2 hb)
        | ok fl =>
          cases fl with
          | next =>
            simp only [endIO] at e
            cases hs : slot0 ρ' with
            | none => rw [hs] at e; cases e
            | some u =>
              rw [hs] at e
              cases e
              intro F' fps' σ' H' o1 hp st
              obtain ⟨fq, e2, r⟩ := last o1 hp hs
              exact p .non [] fq F' H' o1.sub (.d .non) r (by simpa using flat_nodup o1.nd e2) (fun b hb => o1.fr b (mem_flat e2 (by simpa using hb))) (st.less fun b hb => mem_flat e2 (by simpa using hb))
          | ret v =>
            simp only [endIO] at e
            cases hs : slot0 ρ' with
            | none => rw [hs] at e; cases e
            | some u =>
              rw [hs] at e
              cases e
              intro v' fp' F' fps' σ' H' o1 hp ro' nd fr st
              obtain ⟨fq, e2, r⟩ := last o1 hp hs
              rw [List.nodup_append] at nd
              refine p v' fp' fq F' H' o1.sub ro' r ?_ (fun b hb => ?_) (st.less fun b hb => ?_)
              · rw [List.nodup_append]
                exact ⟨nd.1, flat_nodup o1.nd e2, fun b hb c hc => nd.2.2 b hb c (mem_flat e2 hc)⟩
              · rcases List.mem_append.mp hb with z | z
                · exact fr b z
                · exact o1.fr b (mem_flat e2 z)
              · rcases List.mem_append.mp hb with z | z
                · exact List.mem_append_left _ z
                · exact List.mem_append_right _ (mem_flat e2 z)
          | brk => cases e
          | cnt => cases e
    · cases hg
end
end IR
end
section
set_option Elab.async false
set_option linter.all false
set_option maxRecDepth 100000
set_option maxHeartbeats 8000000
/-! ICk9: a program's defs all keep their promises; a law's end. -/
namespace IR
open PySem PySem.Spec PyProof.Rows L2

structure FI where
  x : Str
  d : Def
  names : List Str
  ps : List Str
  sc : List (Str × NameKind)
  dfls : List (List D) := [[]]
def lkFrom : Nat → List FI → List (Str × FnI)
  | _, [] => []
  | f, it :: r => (it.x, ⟨f, it.d.n, it.d.io, it.dfls⟩) :: lkFrom (f + 1) r
def ctxOf (irs : List FI) (cons : List (Str × Nat)) (free : List Str) (it : FI) : Ctx := ⟨it.names, it.sc, lkFrom 0 irs, cons, free, celN it.sc, it.d.io⟩
theorem lk_mem : ∀ {irs : List FI} {n : Nat} {x : Str} {q : FnI}, (x, q) ∈ lkFrom n irs → ∃ f it, q.f = n + f ∧ irs[f]? = some it ∧ it.x = x ∧ q.n = it.d.n ∧ q.io = it.d.io ∧ q.dfls = it.dfls
  | [], n, x, q, h => by cases h
  | it :: r, n, x, q, h => by
    rcases List.mem_cons.mp (show (x, q) ∈ (it.x, (⟨n, it.d.n, it.d.io, it.dfls⟩ : FnI)) :: lkFrom (n + 1) r from h) with e | h
    · cases e
      exact ⟨0, it, rfl, rfl, rfl, rfl, rfl, rfl⟩
    · obtain ⟨f, it', h1, h2, h3⟩ := lk_mem h
      exact ⟨f + 1, it', by omega, h2, h3⟩
structure FIok (K : PySem.W.Frag) (mg : Str → Option Value) (T : Tbl) (Γ : Ctx) (it : FI) (f : Addr) (fd : FuncData) : Prop where
  ex : ∃ (nm qual : Str) (params : Arguments) (body : List Stmt) (scope : Scope) (dvs : List V) (kws : List (Str × V)), FunD K nm qual params body scope dvs kws f fd ∧ FnScope it.names it.ps scope ∧ mSs Γ it.d.body body = true ∧ it.sc = scope.names
  hn : it.ps.length = it.d.n
  hm : it.names.length = it.d.m
  glo : mg it.x = some (.ref f)
  binds : ∀ dfl ∈ it.dfls, ∃ ds dvs, Binds K fd it.ps ds ∧ Vals dvs ds ∧ ∀ F, RDs T F dvs dfl
inductive FIs (K : PySem.W.Frag) (mg : Str → Option Value) (T : Tbl) (Γ : FI → Ctx) : List FI → List (Addr × FuncData) → Prop
  | nil : FIs K mg T Γ [] []
  | cons {it : FI} {f : Addr} {fd : FuncData} {its : List FI} {l : List (Addr × FuncData)} : FIok K mg T (Γ it) it f fd → FIs K mg T Γ its l → FIs K mg T Γ (it :: its) ((f, fd) :: l)
theorem FIs.get {K : PySem.W.Frag} {mg : Str → Option Value} {T : Tbl} {Γ : FI → Ctx} : ∀ {irs : List FI} {l : List (Addr × FuncData)} {f : Nat} {it : FI}, FIs K mg T Γ irs l → irs[f]? = some it → ∃ a fd, l[f]? = some (a, fd) ∧ FIok K mg T (Γ it) it a fd
  | [], _, _, _, .nil, h => by simp at h
  | _ :: _, _, 0, _, .cons h _, e => by
    simp at e
    subst e
    exact ⟨_, _, rfl, h⟩
  | _ :: _, _, f + 1, _, .cons _ r, e => r.get (f := f) (by simpa using e)
def defsOf (irs : List FI) : Nat → Option Def := fun f => irs[f]?.map (·.d)
section
variable {P : Program} {w : World} {K : PySem.W.Frag} {mg : Str → Option Value} {base : Heap} {T : Tbl} {C : Nat → Option D} {N : Nat} {irs : List FI} {cons : List (Str × Nat)} {free : List Str} {l : List (Addr × FuncData)}
theorem prog_ok (hK : K = T.K) (h : FIs K mg T (ctxOf irs cons free) irs l) (con : ∀ x n, cons.lookup x = some n → ∃ v u d, mg x = some u ∧ RelV v u ∧ C n = some d ∧ ∀ F, RD T F v d) (fr : ∀ x ∈ free, mg x = none) :
    ∀ (k f : Nat) (it : FI) (a : Addr) (fd : FuncData), irs[f]? = some it → l[f]? = some (a, fd) → FnOk P w K mg base (L2.CX P w) k a fd it.ps (if it.d.io then spIO T it.d.n (gIO (evP (defsOf irs) C N k) f) else spP T it.d.n (gP (evP (defsOf irs) C N k) f)) := by
  intro k
  induction k with
  | zero =>
    intro f it a fd e1 e2
    cases hio : it.d.io with
    | false =>
      rw [if_neg (by decide)]
      have no : ∀ vs H Q E, ¬ spP T it.d.n (gP (evP (defsOf irs) C N 0) f) vs H Q E := fun vs H Q E ⟨_, F, ds, r, _, _, hg, _⟩ => by cases hg
      exact ⟨fun vs H Q E h => (no _ _ _ _ h).elim, fun _ _ _ _ _ _ _ _ _ _ _ _ _ h => (no _ _ _ _ h).elim⟩
    | true =>
      rw [if_pos rfl]
      have no : ∀ vs H Q E, ¬ spIO T it.d.n (gIO (evP (defsOf irs) C N 0) f) vs H Q E := fun vs H Q E ⟨_, F, a, ws, o, fp, ds, r, _, _, _, _, _, _, hg, _⟩ => by cases hg
      exact ⟨fun vs H Q E h => (no _ _ _ _ h).elim, fun _ _ _ _ _ _ _ _ _ _ _ _ _ h => (no _ _ _ _ h).elim⟩
  | succ k ih =>
    intro f it a fd e1 e2
    obtain ⟨a', fd', e3, hi⟩ := h.get e1
    rw [e2] at e3
    cases e3
    obtain ⟨nm, qual, params, body, scope, dvs, kws, Fd, S, hck, hsc⟩ := hi.ex
    refine def_ok (Γ := ctxOf irs cons free it) hK Fd S hi.hn hi.hm (by unfold defsOf; rw [e1]; rfl) hck rfl rfl hsc (fun x q dfl hx hd A hr => ?_) con fr
    obtain ⟨f', it', q1, q2, q3, q4, q5, q6⟩ := lk_mem (PySem.mem_of_lookup hx)
    obtain ⟨a2, fd2, e4, h2⟩ := h.get q2
    have F2 := ih f' it' a2 fd2 q2 e4
    obtain ⟨nm2, qual2, params2, body2, scope2, dvs2, kws2, Fd2, _⟩ := h2.ex
    rw [q6] at hd
    obtain ⟨ds, dvs', b1, b2, b3⟩ := h2.binds dfl hd
    have hf : q.f = f' := by omega
    refine ⟨k, a2, fd2, it'.ps, ds, dvs', ?_, hr, ?_, Fd2.kp, b1, b2, b3⟩
    · rw [q4, q5, hf]; exact F2
    · rw [← q3]; exact h2.glo
/-- the law's def: its promise, from what it computes -/
theorem spP_law {f : Nat} {G : GF} {H : Hp} {a : Addr} {ns : List Int} (hK : K = T.K) (hS : SqL K H a (ns.map V.int)) (h : G f none [.rol (ns.map .int)] = some (.ok (.d (.bl true)), none)) :
    spP T 1 (gP G f) [.ref a] H (fun v _ => v = .bl true) fun _ _ _ => False := by
  subst hK
  refine ⟨rfl, H, [.rol (ns.map .int)], .ok (.d (.bl true)), Same.refl _, .cons (.rol hS ?_) .nil, by unfold gP; rw [h], ?_⟩
  · clear hS h
    induction ns with
    | nil => exact .nil
    | cons i r ih => exact .cons (.int i) ih
  · intro v fp F' H' _ ro _ _ _
    cases ro with
    | d ro => cases ro; rfl
end
/-- a law's end; CX may go by the world -/
theorem walk_ofW {l : PySem.W.OpenLaw} {n k : Nat} {q : Program} {loose : List Str} {XP : (Str → Option Value) → Heap → Prop} {YP : World → Heap → Prop} {d : DefRec} {CX : World → CXT} {x : Str}
    (hn : l.most = some n) (hn2 : n ≤ sizeLine) (hdf : d.params.defaults = []) (hr : Room k callerA)
    (F : ∀ (w : World) (mg : Str → Option Value) (fa : Addr) (h : Heap), YP w h → h.Ns mainGlobals mg → mg d.name = some (.ref fa) →
      ∃ (K : PySem.W.Frag) (fd : FuncData) (sp : Sp), K.In h ∧ (∀ (s : Shared) (u : Value), BindsTo s fd ⟨[u], []⟩ [(x, u)]) ∧
        (∀ (H : Hp) (a : Addr) (ns : List Int), ns.length ≤ n → Only H → SqL K H a (ns.map V.int) → sp [.ref a] H (fun v _ => v = .bl true) fun _ _ _ => False) ∧
        ∀ base : Heap, K.In base → base.Ns mainGlobals mg → FnOk l.prog w K mg base (CX w) k fa fd [x] sp)
    (hCX : ∀ (w : World) (H : Hp) (s : Shared) (e : Value) (s' : Shared), CX w [] H s (fun _ _ _ => False) e s' → False) :
    PySem.W.WalkO q loose XP YP l.row.toRowW d [] (fun f vs => PySem.call f vs) := by
  refine Att.attach_call hn hdf fun w s₀ s₁ mg mb fa o pm cd doc a vs ns G Y ho hd hcd hmg hobj hints hlen hg => ?_
  obtain ⟨K, fd, sp, KX, hb, hsp, hF⟩ := F w mg fa _ Y G.T.g hmg
  exact law_call KX G.T.g G.T.b G.T.builtins G.T.nolimit hg hobj hints (Nat.le_trans hlen hn2) hr hF hb (fun H hO hS => hsp H a ns hlen hO hS) fun H e s' => hCX w H s₁ e s'
end IR
end
section
set_option Elab.async false
set_option linter.all false
set_option maxRecDepth 100000
set_option maxHeartbeats 8000000
/-! IWp: what a computation reaches, by rules that run it from the left. -/
namespace IR
open PySem PySem.Spec L2

/-- a mark that keeps simp out of a continuation -/
structure Tag {α : Sort _} (a : α) : Type where
/-- it comes to a value of which Q holds -/
def run {α : Type} (m : M α) (ρ : En) (Q : α → En → Prop) (t : Tag Q := ⟨⟩) : Prop := match m ρ with
  | some (.ok a, ρ') => Q a ρ'
  | _ => False
theorem run_iff_ex {α : Type} {m : M α} {ρ : En} {Q : α → En → Prop} {t : Tag Q} : run m ρ Q t ↔ ∃ a ρ', m ρ = some (.ok a, ρ') ∧ Q a ρ' := by
  unfold run
  cases h : m ρ with
  | none => simp
  | some p =>
    obtain ⟨r, ρ'⟩ := p
    cases r with
    | err x => simp
    | ok a =>
      constructor
      · exact fun q => ⟨a, ρ', rfl, q⟩
      · rintro ⟨b, ρ2, e, q⟩
        cases e
        exact q
/-- a name's value -/
def look (x : Option (Option OV)) (K : OV → Prop) (t : Tag K := ⟨⟩) : Prop := match x with
  | some (some o) => K o
  | _ => False
def opt {α : Type} (x : Option α) (K : α → Prop) (t : Tag K := ⟨⟩) : Prop := match x with
  | some a => K a
  | none => False
def optP (x : Option (Res OV × Option OV)) (K : OV → Prop) (t : Tag K := ⟨⟩) : Prop := match x with
  | some (.ok r, none) => K r
  | _ => False
def optIO (x : Option (Res OV × Option OV)) (K : OV → OV → Prop) (t : Tag K := ⟨⟩) : Prop := match x with
  | some (.ok r, some o) => K r o
  | _ => False
def cond (c : Prop) (K : Prop) (t : Tag K := ⟨⟩) : Prop := c ∧ K
def flow (f : Fl) (A B : Prop) (t : Tag A := ⟨⟩) (u : Tag B := ⟨⟩) : Prop := match f with
  | .next => A
  | _ => B
def pick (b : Bool) (A B : Prop) (t : Tag A := ⟨⟩) (u : Tag B := ⟨⟩) : Prop := match b with
  | true => A
  | false => B
section
variable {α β : Type} {ρ ρ' : En}
theorem cond_true {K : Prop} {t : Tag K} : cond True K t = K := propext ⟨fun h => h.2, fun h => ⟨trivial, h⟩⟩
theorem cond_intro {c K : Prop} {t : Tag K} (h : c) (k : K) : cond c K t := ⟨h, k⟩
theorem look_some {o : OV} {K : OV → Prop} {t : Tag K} : look (some (some o)) K t = K o := rfl
theorem opt_some {a : α} {K : α → Prop} {t : Tag K} : opt (some a) K t = K a := rfl
theorem optP_some {r : OV} {K : OV → Prop} {t : Tag K} : optP (some (.ok r, none)) K t = K r := rfl
theorem optIO_some {r o : OV} {K : OV → OV → Prop} {t : Tag K} : optIO (some (.ok r, some o)) K t = K r o := rfl
theorem flow_next {A B : Prop} {t : Tag A} {u : Tag B} : flow .next A B t u = A := rfl
theorem flow_brk {A B : Prop} {t : Tag A} {u : Tag B} : flow .brk A B t u = B := rfl
theorem flow_cnt {A B : Prop} {t : Tag A} {u : Tag B} : flow .cnt A B t u = B := rfl
theorem flow_ret {o : OV} {A B : Prop} {t : Tag A} {u : Tag B} : flow (.ret o) A B t u = B := rfl
theorem pick_true {A B : Prop} {t : Tag A} {u : Tag B} : pick true A B t u = A := rfl
theorem pick_false {A B : Prop} {t : Tag A} {u : Tag B} : pick false A B t u = B := rfl
theorem pick_dec {c : Prop} [Decidable c] {A B : Prop} {t : Tag A} {u : Tag B} (hA : c → A) (hB : ¬ c → B) : pick (decide c) A B t u := by
  by_cases h : c
  · rw [decide_eq_true h]; exact hA h
  · rw [decide_eq_false h]; exact hB h

/-! ### the rules -/
theorem run_ret {a : α} {Q : α → En → Prop} {t : Tag Q} : run (M.ret a) ρ Q t = Q a ρ := rfl
theorem run_bind {m : M α} {k : α → M β} {Q : β → En → Prop} {t : Tag Q} : run (M.bind m k) ρ Q t = run m ρ fun a ρ' => run (k a) ρ' Q := by
  unfold run M.bind
  cases h : m ρ with
  | none => rfl
  | some p => obtain ⟨r, ρ'⟩ := p; cases r <;> rfl
theorem run_fz {m : M OV} {Q : D → En → Prop} {t : Tag Q} : run (M.fz m) ρ Q t = run m ρ fun o ρ' => Q o.fz ρ' := by
  unfold run M.fz M.map M.bind
  cases h : m ρ with
  | none => rfl
  | some p => obtain ⟨r, ρ'⟩ := p; cases r <;> rfl
theorem run_ext {m : M α} {Q Q' : α → En → Prop} {t : Tag Q} {t' : Tag Q'} (h : ∀ a ρ', Q a ρ' = Q' a ρ') : run m ρ Q t = run m ρ Q' t' := by
  obtain rfl : Q = Q' := funext fun a => funext fun ρ' => h a ρ'
  rfl
theorem look_ext {x : Option (Option OV)} {K K' : OV → Prop} {t : Tag K} {t' : Tag K'} (h : ∀ o, K o = K' o) : look x K t = look x K' t' := by
  obtain rfl : K = K' := funext h
  rfl
theorem opt_ext {x : Option α} {K K' : α → Prop} {t : Tag K} {t' : Tag K'} (h : ∀ o, K o = K' o) : opt x K t = opt x K' t' := by
  obtain rfl : K = K' := funext h
  rfl
theorem cond_ext {c K K' : Prop} {t : Tag K} {t' : Tag K'} (h : K = K') : cond c K t = cond c K' t' := by
  subst h
  rfl
theorem run_stuck {Q : α → En → Prop} {t : Tag Q} : run M.stuck ρ Q t = False := rfl
theorem run_var {i : Nat} {Q : OV → En → Prop} {t : Tag Q} : run (mVar i) ρ Q t = look ρ[i]? fun o => Q (.d o.fz) (ρ.set i (some (.d o.fz))) := by
  unfold run mVar look
  cases h : ρ[i]? with
  | none => rfl
  | some x => cases x <;> rfl
theorem run_mov {i : Nat} {Q : OV → En → Prop} {t : Tag Q} : run (mMov i) ρ Q t = look ρ[i]? fun o => Q o (ρ.set i none) := by
  unfold run mMov look
  cases h : ρ[i]? with
  | none => rfl
  | some x => cases x <;> rfl
theorem run_has {i : Nat} {Q : Unit → En → Prop} {t : Tag Q} : run (mHas i) ρ Q t = look ρ[i]? fun _ => Q () ρ := by
  unfold run mHas look
  cases h : ρ[i]? with
  | none => rfl
  | some x => cases x <;> rfl
theorem run_bor {i : Nat} {Q : D → En → Prop} {t : Tag Q} : run (mBor i) ρ Q t = look ρ[i]? fun o => opt o.flat fun x => Q x ρ := by
  unfold run mBor look opt
  cases h : ρ[i]? with
  | none => rfl
  | some x =>
    cases x with
    | none => rfl
    | some o => cases h : o.flat <;> simp [h]
theorem run_put {i : Nat} {o : OV} {Q : Unit → En → Prop} {t : Tag Q} : run (mPut i o) ρ Q t = cond (i < ρ.length) (Q () (ρ.set i (some o))) := by
  unfold run mPut cond
  by_cases h : i < ρ.length <;> simp [h]
theorem run_opt {o : Option α} {Q : α → En → Prop} {t : Tag Q} : run (mOpt o) ρ Q t = opt o fun a => Q a ρ := by
  cases o with
  | none => exact run_stuck
  | some a => exact run_ret
theorem run_if {c : Prop} [Decidable c] {a b : M α} {Q : α → En → Prop} {t : Tag Q} : run (if c then a else b) ρ Q t = pick (decide c) (run a ρ Q) (run b ρ Q) := by
  by_cases h : c
  · rw [if_pos h, decide_eq_true h]; rfl
  · rw [if_neg h, decide_eq_false h]; rfl
theorem run_callP {G : GF} {f : Nat} {xs : List D} {Q : OV → En → Prop} {t : Tag Q} : run (callP G f xs) ρ Q t = optP (G f none xs) fun r => Q r ρ := by
  unfold run callP optP
  cases h : G f none xs with
  | none => simp
  | some p => obtain ⟨r, o⟩ := p; cases o <;> cases r <;> simp
def OV.own : OV → Bool
  | .d _ => false
  | _ => true
theorem run_callIO {G : GF} {f i : Nat} {xs : List D} {Q : OV → En → Prop} {t : Tag Q} : run (callIO G f i xs) ρ Q t = look ρ[i]? fun o => cond (o.own = true) (optIO (G f (some o) xs) fun r o' => Q r (ρ.set i (some o'))) := by
  have tt : ∀ {p : Prop}, p = (True ∧ p) := fun {p} => by simp
  unfold run callIO
  cases h : ρ[i]? with
  | none => rfl
  | some x =>
    cases x with
    | none => rfl
    | some o =>
      show _ = cond (o.own = true) (optIO (G f (some o) xs) fun r o' => Q r (ρ.set i (some o')))
      cases o with
      | d x => simp [cond, OV.own]
      | _ =>
        unfold cond
        simp only [OV.own]
        rename_i z
        first
        | (cases hg : G f (some (.lst z)) xs with
          | none => simp [optIO]
          | some p => obtain ⟨r, q⟩ := p; cases q <;> cases r <;> simp [optIO])
        | (cases hg : G f (some (.dic z)) xs with
          | none => simp [optIO]
          | some p => obtain ⟨r, q⟩ := p; cases q <;> cases r <;> simp [optIO])
        | (cases hg : G f (some (.obj _ z)) xs with
          | none => simp [optIO]
          | some p => obtain ⟨r, q⟩ := p; cases q <;> cases r <;> simp [optIO])
theorem run_lst {i : Nat} {f : List D → Option (List D)} {Q : Unit → En → Prop} {t : Tag Q} : run (mLst i f) ρ Q t = look ρ[i]? fun o => opt (match o with
    | .lst os => OV.ds os
    | _ => none) fun xs => opt (f xs) fun ys => Q () (ρ.set i (some (.lst (ys.map .d)))) := by
  unfold run mLst look opt
  cases h : ρ[i]? with
  | none => simp
  | some x =>
    cases x with
    | none => simp
    | some o =>
      cases o with
      | lst os =>
        simp only
        cases h1 : OV.ds os with
        | none => simp
        | some xs =>
          simp only
          cases h2 : f xs <;> simp
      | _ => simp
end
/-! ### calls as a whole -/
def fin (r : OV) : Fl → En → Prop
  | .ret o, _ => o = r
  | .next, _ => OV.d .non = r
  | _, _ => False
def finIO (r o : OV) : Fl → En → Prop
  | .ret v, ρ => v = r ∧ slot0 ρ = some o
  | .next, ρ => OV.d .non = r ∧ slot0 ρ = some o
  | _, _ => False
section
variable {P : Nat → Option Def} {C : Nat → Option D} {N k f : Nat} {d : Def} {xs : List D} {o o' r : OV}
theorem call_P (hd : P f = some d) (hio : d.io = false) (h : run (evSs (evP P C N k) C N d.body) (startE d.m (xs.map .d)) (fin r)) : evP P C N (k + 1) f none xs = some (.ok r, none) := by
  obtain ⟨fl, ρ', e, q⟩ := run_iff_ex.mp h
  show (match P f with | some d => runD (evP P C N k) C N d none xs | none => none) = _
  rw [hd]
  show runD (evP P C N k) C N d none xs = _
  simp only [runD, hio, Bool.false_eq_true, if_false, e]
  cases fl <;> simp only [fin] at q <;> simp [endP, q]
theorem call_IO (hd : P f = some d) (hio : d.io = true) (h : run (evSs (evP P C N k) C N d.body) (startE d.m (o :: xs.map .d)) (finIO r o')) : evP P C N (k + 1) f (some o) xs = some (.ok r, some o') := by
  obtain ⟨fl, ρ', e, q⟩ := run_iff_ex.mp h
  show (match P f with | some d => runD (evP P C N k) C N d (some o) xs | none => none) = _
  rw [hd]
  show runD (evP P C N k) C N d (some o) xs = _
  simp only [runD, hio, if_true, e]
  cases fl <;> simp only [finIO] at q <;> simp [endIO, q]
end
/-! ### statements -/
section
variable {G : GF} {C : Nat → Option D} {N : Nat} {ρ : En} {Q : Fl → En → Prop}
theorem run_nil {t : Tag Q} : run (evSs G C N []) ρ Q t = Q .next ρ := run_ret
theorem run_cons {s : IS} {r : List IS} {t : Tag Q} : run (evSs G C N (s :: r)) ρ Q t = run (evS G C N s) ρ fun f ρ' => flow f (run (evSs G C N r) ρ' Q) (Q f ρ') := by
  rw [evSs, run_bind]
  exact run_ext fun f ρ' => by cases f <;> first | rfl | exact run_ret
theorem run_asg {tg : Tg} {e : IE} {t : Tag Q} : run (evS G C N (.asg tg e)) ρ Q t = run (valOf (ev G C e)) ρ fun o ρ' => run (putTg tg o.fz) ρ' fun _ ρ'' => Q .next ρ'' := by
  rw [evS, run_bind, run_fz]
  exact run_ext fun o ρ' => run_bind
theorem run_set {i : Nat} {e : IE} {t : Tag Q} : run (evS G C N (.set i e)) ρ Q t = run (valOf (ev G C e)) ρ fun o ρ' => cond (i < ρ'.length) (Q .next (ρ'.set i (some o))) := by
  rw [evS, run_bind]
  exact run_ext fun o ρ' => by rw [run_bind, run_put]; rfl
theorem run_par {i j : Nat} {a b : IE} {t : Tag Q} : run (evS G C N (.par i j a b)) ρ Q t = run (valOf (ev G C a)) ρ fun x ρ1 => run (valOf (ev G C b)) ρ1 fun y ρ2 => cond (i < ρ2.length) (cond (j < (ρ2.set i (some x)).length) (Q .next ((ρ2.set i (some x)).set j (some y)))) := by
  rw [evS, run_bind]
  exact run_ext fun o ρ' => by
    rw [run_bind]
    exact run_ext fun y ρ2 => by
      rw [run_bind, run_put]
      exact cond_ext (by rw [run_bind, run_put]; rfl)
theorem run_exp {e : IE} {t : Tag Q} : run (evS G C N (.exp e)) ρ Q t = run (valOf (ev G C e)) ρ fun _ ρ' => Q .next ρ' := by
  rw [evS, run_bind]
  rfl
theorem run_retS {e : IE} {t : Tag Q} : run (evS G C N (.ret e)) ρ Q t = run (valOf (ev G C e)) ρ fun o ρ' => Q (.ret o) ρ' := by
  rw [evS, run_bind]
  rfl
theorem run_retN {t : Tag Q} : run (evS G C N .retN) ρ Q t = Q (.ret (.d .non)) ρ := by rw [evS]; rfl
theorem run_pass {t : Tag Q} : run (evS G C N .pass) ρ Q t = Q .next ρ := by rw [evS]; rfl
theorem run_brk {t : Tag Q} : run (evS G C N .brk) ρ Q t = Q .brk ρ := by rw [evS]; rfl
theorem run_cnt {t : Tag Q} : run (evS G C N .cnt) ρ Q t = Q .cnt ρ := by rw [evS]; rfl
theorem run_iff {c : IE} {a b : List IS} {t : Tag Q} : run (evS G C N (.iff c a b)) ρ Q t = run (ev G C c).tst ρ fun k ρ' => pick k (run (evSs G C N a) ρ' Q) (run (evSs G C N b) ρ' Q) := by
  rw [evS, run_bind]
  exact run_ext fun k ρ' => by cases k <;> rfl
def lstOf : OV → Option (List D)
  | .lst os => OV.ds os
  | _ => none
theorem run_lst' {i : Nat} {f : List D → Option (List D)} {Q : Unit → En → Prop} {t : Tag Q} : run (mLst i f) ρ Q t = look ρ[i]? fun o => opt (lstOf o) fun xs => opt (f xs) fun ys => Q () (ρ.set i (some (.lst (ys.map .d)))) := by
  rw [run_lst]
  exact look_ext fun o => by cases o <;> rfl
def stoF (kk : D) (y : D) (xs : List D) : Option (List D) := match kk with
  | .int j => (ixN xs.length j).map fun n => xs.set n y
  | _ => none
theorem run_sto {i : Nat} {k e : IE} {t : Tag Q} : run (evS G C N (.sto i k e)) ρ Q t = run (valOf (ev G C e)) ρ fun y ρ1 => look ρ1[i]? fun _ => run (valOf (ev G C k)) ρ1 fun kk ρ2 => look ρ2[i]? fun o => opt (lstOf o) fun xs => opt (stoF kk.fz y.fz xs) fun ys => Q .next (ρ2.set i (some (.lst (ys.map .d)))) := by
  rw [evS, run_bind, run_fz]
  exact run_ext fun y ρ1 => by
    rw [run_bind, run_has]
    exact look_ext fun _ => by
      rw [run_bind, run_fz]
      exact run_ext fun kk ρ2 => by
        rw [run_bind, run_lst']
        exact look_ext fun o => opt_ext fun xs => rfl
theorem run_lop {o : LOp} {i : Nat} {es : List IE} {t : Tag Q} : run (evS G C N (.lop o i es)) ρ Q t = look ρ[i]? fun o1 => opt (lstOf o1) fun xs => run (seqD (evs G C es)) (ρ.set i (some (.lst (xs.map .d)))) fun ys ρ1 => look ρ1[i]? fun o2 => opt (lstOf o2) fun xs => opt (o.f ys xs) fun zs => Q .next (ρ1.set i (some (.lst (zs.map .d)))) := by
  rw [evS, run_bind, run_lst']
  exact look_ext fun o1 => opt_ext fun xs => by
    show run _ _ _ = _
    rw [run_bind]
    exact run_ext fun ys ρ1 => by
      rw [run_bind, run_lst']
      rfl
/-! ### loops -/
theorem run_whl {t : M Bool} {b : M Fl} (I : En → Prop) (μ : En → Nat) (step : ∀ ρ, I ρ → run t ρ fun k ρ' => pick k (run b ρ' fun f ρ'' => match f with
      | .next => I ρ'' ∧ μ ρ'' < μ ρ
      | .cnt => I ρ'' ∧ μ ρ'' < μ ρ
      | .brk => Q .next ρ''
      | .ret o => Q (.ret o) ρ'') (Q .next ρ')) : ∀ (n : Nat) (ρ : En), I ρ → μ ρ < n → run (whlM n t b) ρ Q
  | 0, ρ, _, h => absurd h (Nat.not_lt_zero _)
  | n + 1, ρ, hI, hn => by
    obtain ⟨k, ρ1, e1, q⟩ := run_iff_ex.mp (step ρ hI)
    unfold whlM
    rw [run_bind]
    refine run_iff_ex.mpr ⟨k, ρ1, e1, ?_⟩
    cases k with
    | false =>
      rw [if_neg (by decide), run_ret]
      exact q
    | true =>
      rw [if_pos rfl, run_bind]
      obtain ⟨f, ρ2, e2, q⟩ := run_iff_ex.mp (show run b ρ1 _ from q)
      refine run_iff_ex.mpr ⟨f, ρ2, e2, ?_⟩
      cases f with
      | next => exact run_whl I μ step n ρ2 q.1 (by omega)
      | cnt => exact run_whl I μ step n ρ2 q.1 (by omega)
      | brk => show run (M.ret _) _ _; rw [run_ret]; exact q
      | ret o => show run (M.ret _) _ _; rw [run_ret]; exact q
theorem run_forM {tg : Tg} {b : M Fl} (I : Nat → En → Prop) {items : List D} (step : ∀ (i : Nat) (x : D) (ρ : En), items[i]? = some x → I i ρ → run (putTg tg x) ρ fun _ ρ' => run b ρ' fun f ρ'' => match f with
      | .next => I (i + 1) ρ''
      | .cnt => I (i + 1) ρ''
      | .brk => Q .next ρ''
      | .ret o => Q (.ret o) ρ'') (fin : ∀ ρ, I items.length ρ → Q .next ρ) (h0 : I 0 ρ) : run (forM tg b items) ρ Q := by
  suffices h : ∀ (r : List D) (i : Nat) (ρ : En), items.drop i = r → i ≤ items.length → I i ρ → run (forM tg b r) ρ Q from h items 0 ρ rfl (Nat.zero_le _) h0
  intro r
  induction r with
  | nil =>
    intro i ρ e hi h
    unfold forM
    rw [run_ret]
    have : i = items.length := by
      have := congrArg List.length e
      simp at this
      omega
    subst this
    exact fin ρ h
  | cons x r ih =>
    intro i ρ e hi h
    have hx : items[i]? = some x := by
      have := congrArg (fun l => l[0]?) e
      simpa using this
    have hl : i < items.length := (List.getElem?_eq_some_iff.mp hx).1
    have hd : items.drop (i + 1) = r := by
      rw [← List.drop_drop, e]
      rfl
    unfold forM
    rw [run_bind]
    obtain ⟨u, ρ1, e1, q⟩ := run_iff_ex.mp (step i x ρ hx h)
    refine run_iff_ex.mpr ⟨u, ρ1, e1, ?_⟩
    rw [run_bind]
    obtain ⟨f, ρ2, e2, q⟩ := run_iff_ex.mp q
    refine run_iff_ex.mpr ⟨f, ρ2, e2, ?_⟩
    cases f with
    | next => exact ih (i + 1) ρ2 hd hl q
    | cnt => exact ih (i + 1) ρ2 hd hl q
    | brk => show run (M.ret _) _ _; rw [run_ret]; exact q
    | ret o => show run (M.ret _) _ _; rw [run_ret]; exact q
theorem run_fr {k : SrcK} {src : List IE} {tg : Tg} {b : List IS} {t : Tag Q} (h : (srcM k (evs G C src)).2 = none) : run (evS G C N (.fr k src tg b)) ρ Q t = run (srcM k (evs G C src)).1 ρ fun items ρ' => run (forM tg (evSs G C N b) items) ρ' Q := by
  rw [evS, h]
  exact run_bind
theorem run_whlS {c : IE} {b : List IS} {t : Tag Q} : run (evS G C N (.whl c b)) ρ Q t = run (whlM N (ev G C c).tst (evSs G C N b)) ρ Q := by rw [evS]
end
end IR
end
section
set_option Elab.async false
set_option linter.all false
set_option maxRecDepth 100000
set_option maxHeartbeats 8000000
/-! IWp2: the rules of values. -/
namespace IR
open PySem PySem.Spec L2
section
variable {ρ : En} {Q : OV → En → Prop} {t : Tag Q} {Qb : Bool → En → Prop} {tb : Tag Qb}
theorem atI_nat {α : Type} (xs : List α) (k : Nat) : L2.atI xs (k : Int) = xs[k]? := by
  unfold L2.atI ixN
  rw [if_pos (Int.natCast_nonneg k)]
  by_cases h : k < xs.length
  · rw [if_pos (by omega)]; rfl
  · rw [if_neg (by omega), List.getElem?_eq_none (by omega)]; rfl
theorem atI_0 {α : Type} (xs : List α) : L2.atI xs 0 = xs[0]? := atI_nat xs 0
theorem atI_1 {α : Type} (xs : List α) : L2.atI xs 1 = xs[1]? := atI_nat xs 1
theorem atI_2 {α : Type} (xs : List α) : L2.atI xs 2 = xs[2]? := atI_nat xs 2
theorem atI_3 {α : Type} (xs : List α) : L2.atI xs 3 = xs[3]? := atI_nat xs 3
theorem atI_4 {α : Type} (xs : List α) : L2.atI xs 4 = xs[4]? := atI_nat xs 4
theorem atI_pos {α : Type} {xs : List α} {i : Int} (h : 0 ≤ i) : L2.atI xs i = xs[i.toNat]? := by
  obtain ⟨k, rfl⟩ := Int.eq_ofNat_of_zero_le h
  exact atI_nat xs k
theorem ixN_nat {n k : Nat} (h : k < n) : ixN n (k : Int) = some k := by
  unfold ixN
  rw [if_pos (Int.natCast_nonneg k), if_pos (by omega)]
  rfl
theorem stoF_nat {k : Nat} {y : D} {xs : List D} (h : k < xs.length) : stoF (.int (k : Int)) y xs = some (xs.set k y) := by
  unfold stoF
  simp only [ixN_nat h, Option.map_some]
theorem stoF_0 {y : D} {xs : List D} (h : 0 < xs.length) : stoF (.int 0) y xs = some (xs.set 0 y) := stoF_nat (k := 0) h
theorem stoF_1 {y : D} {xs : List D} (h : 1 < xs.length) : stoF (.int 1) y xs = some (xs.set 1 y) := stoF_nat (k := 1) h
theorem stoF_2 {y : D} {xs : List D} (h : 2 < xs.length) : stoF (.int 2) y xs = some (xs.set 2 y) := stoF_nat (k := 2) h
theorem stoF_3 {y : D} {xs : List D} (h : 3 < xs.length) : stoF (.int 3) y xs = some (xs.set 3 y) := stoF_nat (k := 3) h
theorem stoF_4 {y : D} {xs : List D} (h : 4 < xs.length) : stoF (.int 4) y xs = some (xs.set 4 y) := stoF_nat (k := 4) h
theorem run_add_int {i j : Int} : run (vAdd (.int i) (.int j)) ρ Q t = Q (.d (.int (i + j))) ρ := rfl
theorem run_sub_int {i j : Int} : run (vSub (.int i) (.int j)) ρ Q t = Q (.d (.int (i - j))) ρ := rfl
theorem run_ite_stuck {α : Type} {c : Prop} [Decidable c] {m : M α} {Q : α → En → Prop} {t : Tag Q} : run (if c then m else M.stuck) ρ Q t = (c ∧ run m ρ Q t) := by
  by_cases h : c
  · rw [if_pos h]; exact propext ⟨fun q => ⟨h, q⟩, fun q => q.2⟩
  · rw [if_neg h]; exact propext ⟨fun q => False.elim q, fun q => h q.1⟩
theorem run_mul_int {i j : Int} : run (vMul (.int i) (.int j)) ρ Q t = (mulOk i j = true ∧ Q (.d (.int (i * j))) ρ) := run_ite_stuck
theorem run_fdiv_int {i j : Int} : run (vFdiv (.int i) (.int j)) ρ Q t = ((0 < j ∧ j.natAbs.log2 < 9000) ∧ Q (.d (.int (i / j))) ρ) := by
  have h : run (vFdiv (.int i) (.int j)) ρ Q t = ((decide (0 < j) && decide (j.natAbs.log2 < 9000)) = true ∧ run (M.ret (.d (.int (i / j)))) ρ Q t) := run_ite_stuck
  rw [h, Bool.and_eq_true, decide_eq_true_eq, decide_eq_true_eq, run_ret]
theorem run_mod_int {i j : Int} : run (vMod (.int i) (.int j)) ρ Q t = (0 < j ∧ Q (.d (.int (i % j))) ρ) := run_ite_stuck
theorem run_pow_int {i j : Int} : run (vPow (.int i) (.int j)) ρ Q t = ((0 ≤ j ∧ j ≤ 1000000 ∧ i.natAbs < 2 ^ 64) ∧ Q (.d (.int (i ^ j.toNat))) ρ) := by
  have h : run (vPow (.int i) (.int j)) ρ Q t = ((decide (0 ≤ j) && decide (j ≤ 1000000) && decide (i.natAbs < 2 ^ 64)) = true ∧ run (M.ret (.d (.int (i ^ j.toNat)))) ρ Q t) := run_ite_stuck
  rw [h, Bool.and_eq_true, Bool.and_eq_true, decide_eq_true_eq, decide_eq_true_eq, decide_eq_true_eq, run_ret]
  exact propext ⟨fun ⟨⟨⟨x, y⟩, z⟩, q⟩ => ⟨⟨x, y, z⟩, q⟩, fun ⟨⟨x, y, z⟩, q⟩ => ⟨⟨⟨x, y⟩, z⟩, q⟩⟩
theorem run_neg_int {i : Int} : run (vNeg (.int i)) ρ Q t = Q (.d (.int (-i))) ρ := rfl
theorem run_idx_tup {xs : List D} {i : Int} : run (vIdx (.tup xs) (.int i)) ρ Q t = opt (L2.atI xs i) fun x => Q (.d x) ρ := by
  show run (match L2.atI xs i with | some x => M.ret (.d x) | none => M.stuck) ρ Q t = _
  cases L2.atI xs i <;> rfl
theorem run_idx_lst {xs : List D} {i : Int} : run (vIdx (.lst xs) (.int i)) ρ Q t = opt (L2.atI xs i) fun x => Q (.d x) ρ := by
  show run (match L2.atI xs i with | some x => M.ret (.d x) | none => M.stuck) ρ Q t = _
  cases L2.atI xs i <;> rfl
theorem run_lt_int {i j : Int} : run (vLt (.int i) (.int j)) ρ Qb tb = Qb (decide (i < j)) ρ := rfl
theorem run_le_int {i j : Int} : run (vLe (.int i) (.int j)) ρ Qb tb = Qb (decide (i ≤ j)) ρ := rfl
theorem eqv_int (i j : Int) : D.eqv (.int i) (.int j) = decide (i = j) := by
  unfold D.eqv
  simp [D.py, PyData.eqv]
  by_cases h : i = j <;> simp [h]
theorem run_eq_int {i j : Int} : run (vEq (.int i) (.int j)) ρ Qb tb = Qb (decide (i = j)) ρ := by
  unfold vEq
  rw [if_pos (by rfl), run_ret, eqv_int]
theorem run_not {m : M Bool} : run (mNot m) ρ Qb tb = run m ρ fun b ρ' => Qb (!b) ρ' := by unfold mNot; rw [run_bind]; rfl
theorem run_mB {m : M Bool} : run (mB m) ρ Q t = run m ρ fun b ρ' => Q (.d (.bl b)) ρ' := by unfold mB; rw [run_bind]; rfl
theorem run_tup {xs : List D} : run (vTup xs) ρ Q t = (xs.length ≤ sizeLine ∧ Q (.d (.tup xs)) ρ) := run_ite_stuck
theorem run_lstV {xs : List D} : run (vLst xs) ρ Q t = (xs.length ≤ sizeLine ∧ Q (.lst (xs.map .d)) ρ) := run_ite_stuck
theorem ds_of (xs : List D) : OV.ds (xs.map .d) = some xs := ds_map xs
theorem flat_lst (xs : List D) : OV.flat (.lst (xs.map .d)) = some (.lst xs) := by
  show (OV.ds (xs.map .d)).map D.lst = _
  rw [ds_map]
  rfl
theorem fz_lst (xs : List D) : OV.fz (.lst (xs.map .d)) = .lst xs := by simp only [OV.fz, fzs_d]
theorem fz_d (x : D) : OV.fz (.d x) = x := by simp [OV.fz]
theorem lstOf_lst (xs : List D) : lstOf (.lst (xs.map .d)) = some xs := ds_map xs
theorem own_lst (os : List OV) : (OV.own (.lst os) = true) = True := propext ⟨fun _ => trivial, fun _ => rfl⟩
theorem flat_d (x : D) : OV.flat (.d x) = some x := rfl
theorem cond_and {c K : Prop} {t : Tag K} : cond c K t = (c ∧ K) := rfl
theorem sl_0 : (0 ≤ sizeLine) = True := propext ⟨fun _ => trivial, fun _ => by decide⟩
theorem sl_1 : (1 ≤ sizeLine) = True := propext ⟨fun _ => trivial, fun _ => by decide⟩
theorem sl_2 : (2 ≤ sizeLine) = True := propext ⟨fun _ => trivial, fun _ => by decide⟩
theorem sl_3 : (3 ≤ sizeLine) = True := propext ⟨fun _ => trivial, fun _ => by decide⟩
theorem sl_4 : (4 ≤ sizeLine) = True := propext ⟨fun _ => trivial, fun _ => by decide⟩
theorem sl_5 : (5 ≤ sizeLine) = True := propext ⟨fun _ => trivial, fun _ => by decide⟩
theorem sl_6 : (6 ≤ sizeLine) = True := propext ⟨fun _ => trivial, fun _ => by decide⟩
theorem sl_7 : (7 ≤ sizeLine) = True := propext ⟨fun _ => trivial, fun _ => by decide⟩
theorem sl_8 : (8 ≤ sizeLine) = True := propext ⟨fun _ => trivial, fun _ => by decide⟩
theorem sl_9 : (9 ≤ sizeLine) = True := propext ⟨fun _ => trivial, fun _ => by decide⟩
theorem sl_10 : (10 ≤ sizeLine) = True := propext ⟨fun _ => trivial, fun _ => by decide⟩
theorem sl_11 : (11 ≤ sizeLine) = True := propext ⟨fun _ => trivial, fun _ => by decide⟩
theorem sl_12 : (12 ≤ sizeLine) = True := propext ⟨fun _ => trivial, fun _ => by decide⟩
end
def finX (R : OV → OV → Prop) : Fl → En → Prop
  | .ret v, ρ => opt (slot0 ρ) (R v)
  | .next, ρ => opt (slot0 ρ) (R (.d .non))
  | _, _ => False
def finP (R : OV → Prop) : Fl → En → Prop
  | .ret v, _ => R v
  | .next, _ => R (.d .non)
  | _, _ => False
theorem call_IOx {P : Nat → Option Def} {C : Nat → Option D} {N k f : Nat} {d : Def} {xs : List D} {o : OV} {R : OV → OV → Prop} (hd : P f = some d) (hio : d.io = true) (h : run (evSs (evP P C N k) C N d.body) (startE d.m (o :: xs.map .d)) (finX R)) :
    ∃ r o', evP P C N (k + 1) f (some o) xs = some (.ok r, some o') ∧ R r o' := by
  obtain ⟨fl, ρ', e, q⟩ := run_iff_ex.mp h
  have e2 : evP P C N (k + 1) f (some o) xs = endIO (some (.ok fl, ρ')) := by
    show (match P f with | some d => runD (evP P C N k) C N d (some o) xs | none => none) = _
    rw [hd]
    show runD (evP P C N k) C N d (some o) xs = _
    simp only [runD, hio, if_true, e]
  cases fl with
  | next =>
    cases hs : slot0 ρ' with
    | none => simp only [finX, hs, opt] at q
    | some u => exact ⟨.d .non, u, by rw [e2]; simp [endIO, hs], by simpa only [finX, hs, opt] using q⟩
  | ret v =>
    cases hs : slot0 ρ' with
    | none => simp only [finX, hs, opt] at q
    | some u => exact ⟨v, u, by rw [e2]; simp [endIO, hs], by simpa only [finX, hs, opt] using q⟩
  | brk => exact q.elim
  | cnt => exact q.elim
theorem call_Px {P : Nat → Option Def} {C : Nat → Option D} {N k f : Nat} {d : Def} {xs : List D} {R : OV → Prop} (hd : P f = some d) (hio : d.io = false) (h : run (evSs (evP P C N k) C N d.body) (startE d.m (xs.map .d)) (finP R)) :
    ∃ r, evP P C N (k + 1) f none xs = some (.ok r, none) ∧ R r := by
  obtain ⟨fl, ρ', e, q⟩ := run_iff_ex.mp h
  have e2 : evP P C N (k + 1) f none xs = endP (some (.ok fl, ρ')) := by
    show (match P f with | some d => runD (evP P C N k) C N d none xs | none => none) = _
    rw [hd]
    show runD (evP P C N k) C N d none xs = _
    simp only [runD, hio, Bool.false_eq_true, if_false, e]
  cases fl with
  | next => exact ⟨.d .non, e2, q⟩
  | ret v => exact ⟨v, e2, q⟩
  | brk => exact q.elim
  | cnt => exact q.elim
/-- one statement at a time: the continuation is a variable -/
theorem seq_run {G : GF} {C : Nat → Option D} {N : Nat} {ρ : En} {Q : Fl → En → Prop} {s : IS} {r : List IS} (h : ∀ K : Fl → En → Prop, (∀ ρ', run (evSs G C N r) ρ' Q → K .next ρ') → (∀ f ρ', f ≠ .next → Q f ρ' → K f ρ') → run (evS G C N s) ρ K) : run (evSs G C N (s :: r)) ρ Q := by
  rw [run_cons]
  refine h _ (fun ρ' q => q) (fun f ρ' hf q => ?_)
  cases f with
  | next => exact absurd rfl hf
  | _ => exact q
theorem ret_ne {o : OV} : Fl.ret o ≠ .next := by intro h; cases h
end IR
end
section
set_option Elab.async false
set_option linter.all false
set_option maxRecDepth 100000
set_option maxHeartbeats 8000000
/-! IWp3: comprehensions, loops, more rules of values. -/
namespace IR
open PySem PySem.Spec L2
/-- the program, so many calls deep; never unfolded -/
@[irreducible] def PG (P : Nat → Option Def) (C : Nat → Option D) (N k : Nat) : GF := evP P C N k
section
variable {P : Nat → Option Def} {C : Nat → Option D} {N k f : Nat} {d : Def} {xs : List D} {o o' r : OV}
theorem PG_def : PG P C N k = evP P C N k := by unfold PG; rfl
theorem ecall_P (hd : P f = some d) (hio : d.io = false) (h : run (evSs (PG P C N k) C N d.body) (startE d.m (xs.map .d)) (fin r)) : PG P C N (k + 1) f none xs = some (.ok r, none) := by
  rw [PG_def] at h ⊢
  exact call_P hd hio h
theorem ecall_IOx {R : OV → OV → Prop} (hd : P f = some d) (hio : d.io = true) (h : run (evSs (PG P C N k) C N d.body) (startE d.m (o :: xs.map .d)) (finX R)) :
    ∃ r o', PG P C N (k + 1) f (some o) xs = some (.ok r, some o') ∧ R r o' := by
  rw [PG_def] at h ⊢
  exact call_IOx hd hio h
theorem ecall_Px {R : OV → Prop} (hd : P f = some d) (hio : d.io = false) (h : run (evSs (PG P C N k) C N d.body) (startE d.m (xs.map .d)) (finP R)) :
    ∃ r, PG P C N (k + 1) f none xs = some (.ok r, none) ∧ R r := by
  rw [PG_def] at h ⊢
  exact call_Px hd hio h
end
section
variable {α : Type} {ρ : En}
theorem run_mono {m : M α} {Q Q' : α → En → Prop} {t : Tag Q} {t' : Tag Q'} (h : run m ρ Q t) (k : ∀ a ρ', Q a ρ' → Q' a ρ') : run m ρ Q' t' := by
  obtain ⟨a, ρ', e, q⟩ := run_iff_ex.mp h
  exact run_iff_ex.mpr ⟨a, ρ', e, k _ _ q⟩
theorem run_cprLoop {turn : D → M (Option D)} {Q : List D → En → Prop} (items : List D) (I : Nat → List D → En → Prop) (step : ∀ (i : Nat) (x : D) (acc : List D) (ρ : En), items[i]? = some x → I i acc ρ → run (turn x) ρ fun o ρ' => I (i + 1) (acc ++ o.toList) ρ')
    (h0 : I 0 [] ρ) (fin : ∀ acc ρ, I items.length acc ρ → Q acc ρ) : run (cprLoop turn items) ρ Q := by
  suffices h : ∀ (r : List D) (i : Nat) (acc : List D) (ρ : En), items.drop i = r → i ≤ items.length → I i acc ρ → run (cprLoop turn r) ρ fun ys ρ' => Q (acc ++ ys) ρ' by
    have := h items 0 [] ρ rfl (Nat.zero_le _) h0
    simpa using this
  intro r
  induction r with
  | nil =>
    intro i acc ρ e hi h
    unfold cprLoop
    rw [run_ret, List.append_nil]
    have : i = items.length := by
      have := congrArg List.length e
      simp at this
      omega
    subst this
    exact fin acc ρ h
  | cons x r ih =>
    intro i acc ρ e hi h
    have hx : items[i]? = some x := by
      have := congrArg (fun l => l[0]?) e
      simpa using this
    have hl : i < items.length := (List.getElem?_eq_some_iff.mp hx).1
    have hd : items.drop (i + 1) = r := by
      rw [← List.drop_drop, e]
      rfl
    unfold cprLoop
    rw [run_bind]
    refine run_mono (step i x acc ρ hx h) fun o ρ' h1 => ?_
    rw [run_bind]
    refine run_mono (ih (i + 1) _ ρ' hd hl h1) fun ys ρ2 h2 => ?_
    rw [run_ret]
    cases o with
    | none => simpa using h2
    | some y => simpa using h2
/-- a comprehension, by an invariant -/
theorem run_cpr {src : M (List D)} {hid : Option Nat} {own : List Nat} {tg : Tg} {elt : M OV} {cond : M Bool} {Q : OV → En → Prop} {t : Tag Q}
    (h : run src ρ fun items ρ1 => onlyD ρ1 own = true ∧ items.length ≤ sizeLine ∧ (hideL hid).all (fun i => !own.contains i) = true ∧
      run (cprLoop (cprTurn own tg elt cond) items) (wipeE ρ1 (own ++ hideL hid)) fun ys ρ' => Q (.lst (ys.map .d)) (backE ρ' ρ1 (own ++ hideL hid))) : run (cprM src hid own tg elt cond) ρ Q t := by
  unfold cprM
  rw [run_bind]
  refine run_mono h fun items ρ1 ⟨h1, h2, h3, h4⟩ => ?_
  obtain ⟨ys, ρ', e, q⟩ := run_iff_ex.mp h4
  unfold run
  dsimp only
  rw [if_pos (by rw [h1, h3, decide_eq_true h2]; rfl), e]
  exact q
/-- the target is one name, the turn without a condition -/
theorem turn_one {own : List Nat} {i : Nat} {elt : M OV} {x : D} {Q : Option D → En → Prop} {t : Tag Q} (hi : i < ρ.length) (h : run elt (ρ.set i (some (.d x))) fun y ρ' => Q (some y.fz) (wipeE ρ' own)) : run (cprTurn own (.v i) elt (M.ret true) x) ρ Q t := by
  unfold cprTurn
  rw [run_bind, putTg, run_put]
  refine ⟨hi, ?_⟩
  rw [run_bind, run_ret, if_pos rfl, run_bind, run_fz]
  refine run_mono h fun y ρ' q => ?_
  rw [run_bind]
  exact q
theorem turn_if {own : List Nat} {i : Nat} {elt : M OV} {cond : M Bool} {x : D} {Q : Option D → En → Prop} {t : Tag Q} (hi : i < ρ.length)
    (h : run cond (ρ.set i (some (.d x))) fun b ρ1 => (b = true → run elt ρ1 fun y ρ' => Q (some y.fz) (wipeE ρ' own)) ∧ (b = false → Q none (wipeE ρ1 own))) : run (cprTurn own (.v i) elt cond x) ρ Q t := by
  unfold cprTurn
  rw [run_bind, putTg, run_put]
  refine ⟨hi, ?_⟩
  rw [run_bind]
  refine run_mono h fun b ρ1 ⟨q1, q2⟩ => ?_
  cases b with
  | true =>
    rw [if_pos rfl, run_bind, run_fz]
    refine run_mono (q1 rfl) fun y ρ' q => ?_
    rw [run_bind]
    exact q
  | false =>
    rw [if_neg (by decide), run_bind]
    exact q2 rfl
/-- .. two names -/
theorem turn_two {own : List Nat} {i j : Nat} {elt : M OV} {x y : D} {Q : Option D → En → Prop} {t : Tag Q} (hi : i < ρ.length) (hj : j < ρ.length) (h : run elt ((ρ.set i (some (.d x))).set j (some (.d y))) fun z ρ' => Q (some z.fz) (wipeE ρ' own)) : run (cprTurn own (.u [.v i, .v j]) elt (M.ret true) (.tup [x, y])) ρ Q t := by
  unfold cprTurn
  rw [run_bind, putTg, putTgs, run_bind, putTg, run_put]
  refine ⟨hi, ?_⟩
  rw [putTgs, run_bind, putTg, run_put]
  refine ⟨by rw [List.length_set]; exact hj, ?_⟩
  rw [putTgs, run_ret, run_bind, run_ret, if_pos rfl, run_bind, run_fz]
  refine run_mono h fun y ρ' q => ?_
  rw [run_bind]
  exact q
theorem cutL_map {α β : Type} (f : α → β) (xs : List α) (lo hi : Option Int) : cutL (xs.map f) lo hi = (cutL xs lo hi).map f := by
  unfold cutL
  rw [List.length_map, List.map_take, List.map_drop]
section
variable {Q : OV → En → Prop} {t : Tag Q} {Qb : Bool → En → Prop} {tb : Tag Qb}
theorem run_slc_rol {xs : List D} {lo hi : Option Int} : run (vSlc (.rol xs) lo hi) ρ Q t = Q (.lst ((cutL xs lo hi).map .d)) ρ := rfl
theorem run_slc_lst {xs : List D} {lo hi : Option Int} : run (vSlc (.lst xs) lo hi) ρ Q t = Q (.lst ((cutL xs lo hi).map .d)) ρ := rfl
theorem run_slc_tup {xs : List D} {lo hi : Option Int} : run (vSlc (.tup xs) lo hi) ρ Q t = Q (.d (.tup (cutL xs lo hi))) ρ := rfl
theorem run_list_lst {xs : List D} : run (vBlt .list (.lst xs)) ρ Q t = Q (.lst (xs.map .d)) ρ := rfl
theorem run_list_tup {xs : List D} : run (vBlt .list (.tup xs)) ρ Q t = Q (.lst (xs.map .d)) ρ := rfl
theorem run_tuple_lst {xs : List D} : run (vBlt .tuple (.lst xs)) ρ Q t = Q (.d (.tup xs)) ρ := rfl
theorem run_tuple_tup {xs : List D} : run (vBlt .tuple (.tup xs)) ρ Q t = Q (.d (.tup xs)) ρ := rfl
theorem run_max2 {i j : Int} : run (vBl2 .max (.int i) (.int j)) ρ Q t = Q (.d (.int (if j > i then j else i))) ρ := rfl
theorem run_min2 {i j : Int} : run (vBl2 .min (.int i) (.int j)) ρ Q t = Q (.d (.int (if j < i then j else i))) ρ := rfl
theorem run_len_lst {xs : List D} : run (vBlt .len (.lst xs)) ρ Q t = Q (.d (.int xs.length)) ρ := rfl
theorem run_len_tup {xs : List D} : run (vBlt .len (.tup xs)) ρ Q t = Q (.d (.int xs.length)) ρ := rfl
theorem run_abs_int {i : Int} : run (vBlt .abs (.int i)) ρ Q t = Q (.d (.int (if i < 0 then -i else i))) ρ := rfl
theorem run_int_int {i : Int} : run (vBlt .int (.int i)) ρ Q t = Q (.d (.int i)) ρ := rfl
theorem run_all_bls {xs : List D} {bs : List Bool} (h : D.bls xs = some bs) : run (vBlt .all (.lst xs)) ρ Q t = Q (.d (.bl (bs.all id))) ρ := by
  show run (match D.bls xs with
    | some bs => M.ret (.d (.bl (bs.all id)))
    | none => M.stuck) ρ Q t = _
  rw [h]
  rfl
theorem run_any_bls {xs : List D} {bs : List Bool} (h : D.bls xs = some bs) : run (vBlt .any (.lst xs)) ρ Q t = Q (.d (.bl (bs.any id))) ρ := by
  show run (match D.bls xs with
    | some bs => M.ret (.d (.bl (bs.any id)))
    | none => M.stuck) ρ Q t = _
  rw [h]
  rfl
theorem run_isi {ts : List Ty} {x : D} {b : Bool} (h : x.isTys ts = some b) : run (vIsi ts x) ρ Q t = Q (.d (.bl b)) ρ := by
  unfold vIsi
  rw [h]
  rfl
theorem run_isN {x : D} : run (vIsN x .non) ρ Qb tb = Qb x.isN ρ := rfl
theorem run_eq {x y : D} (hx : D.ok 60 x = true) (hy : D.ok 60 y = true) : run (vEq x y) ρ Qb tb = Qb (D.eqv x y) ρ := by
  unfold vEq
  rw [hx, hy]
  rfl
end
end
theorem sl_13 : (13 ≤ sizeLine) = True := propext ⟨fun _ => trivial, fun _ => by decide⟩
theorem sl_14 : (14 ≤ sizeLine) = True := propext ⟨fun _ => trivial, fun _ => by decide⟩
theorem sl_15 : (15 ≤ sizeLine) = True := propext ⟨fun _ => trivial, fun _ => by decide⟩
theorem sl_16 : (16 ≤ sizeLine) = True := propext ⟨fun _ => trivial, fun _ => by decide⟩
theorem sl_17 : (17 ≤ sizeLine) = True := propext ⟨fun _ => trivial, fun _ => by decide⟩
theorem sl_18 : (18 ≤ sizeLine) = True := propext ⟨fun _ => trivial, fun _ => by decide⟩
theorem sl_19 : (19 ≤ sizeLine) = True := propext ⟨fun _ => trivial, fun _ => by decide⟩
theorem sl_20 : (20 ≤ sizeLine) = True := propext ⟨fun _ => trivial, fun _ => by decide⟩
theorem sl_21 : (21 ≤ sizeLine) = True := propext ⟨fun _ => trivial, fun _ => by decide⟩
theorem sl_22 : (22 ≤ sizeLine) = True := propext ⟨fun _ => trivial, fun _ => by decide⟩
theorem sl_23 : (23 ≤ sizeLine) = True := propext ⟨fun _ => trivial, fun _ => by decide⟩
theorem sl_24 : (24 ≤ sizeLine) = True := propext ⟨fun _ => trivial, fun _ => by decide⟩
theorem sl_25 : (25 ≤ sizeLine) = True := propext ⟨fun _ => trivial, fun _ => by decide⟩
theorem sl_26 : (26 ≤ sizeLine) = True := propext ⟨fun _ => trivial, fun _ => by decide⟩
theorem sl_27 : (27 ≤ sizeLine) = True := propext ⟨fun _ => trivial, fun _ => by decide⟩
theorem sl_28 : (28 ≤ sizeLine) = True := propext ⟨fun _ => trivial, fun _ => by decide⟩
theorem sl_29 : (29 ≤ sizeLine) = True := propext ⟨fun _ => trivial, fun _ => by decide⟩
theorem sl_30 : (30 ≤ sizeLine) = True := propext ⟨fun _ => trivial, fun _ => by decide⟩
theorem sl_31 : (31 ≤ sizeLine) = True := propext ⟨fun _ => trivial, fun _ => by decide⟩
theorem sl_32 : (32 ≤ sizeLine) = True := propext ⟨fun _ => trivial, fun _ => by decide⟩
theorem D.eqv_refl {n : Nat} {x : D} (h : D.ok n x = true) : D.eqv x x = true := SeqAt.eqv_refl _ (D.ok_lay n x h).1
end IR
end
section
set_option Elab.async false
set_option linter.all false
set_option maxRecDepth 100000
set_option maxHeartbeats 8000000
/-! ILaw1: sizes of numbers; the laws' own small defs: a draw, one of several, a place, likeness. -/
namespace IR
open PySem PySem.Spec L2
/-! ### sizes -/
def Sz (n : Nat) (i : Int) : Prop := i.natAbs < 2 ^ n
section
variable {a b : Int} {n m : Nat}
theorem Sz.mono (h : Sz n a) (l : n ≤ m) : Sz m a := Nat.lt_of_lt_of_le h (Nat.pow_le_pow_right (by decide) l)
theorem Sz.log (h : Sz n a) : a.natAbs.log2 ≤ n := by
  by_cases h0 : a.natAbs = 0
  · rw [h0]; simp
  · exact Nat.le_of_lt ((Nat.log2_lt h0).mpr h)
theorem Sz.add (h : Sz n a) (k : Sz n b) : Sz (n + 1) (a + b) := by
  unfold Sz at *
  have := Int.natAbs_add_le a b
  rw [Nat.pow_succ]
  omega
theorem Sz.neg (h : Sz n a) : Sz n (-a) := by unfold Sz at *; rw [Int.natAbs_neg]; exact h
theorem Sz.sub (h : Sz n a) (k : Sz n b) : Sz (n + 1) (a - b) := by
  rw [Int.sub_eq_add_neg]
  exact h.add k.neg
theorem Sz.mul (h : Sz n a) (k : Sz m b) : Sz (n + m) (a * b) := by
  unfold Sz at *
  rw [Int.natAbs_mul, Nat.pow_add]
  exact Nat.mul_lt_mul'' h k
theorem Sz.mod (h : Sz n b) (h0 : 0 < b) : Sz n (a % b) := by
  unfold Sz at *
  have h1 := Int.emod_nonneg a (Int.ne_of_gt h0)
  have h2 := Int.emod_lt_of_pos a h0
  omega
theorem Sz.div (h : Sz n a) : Sz n (a / b) := Nat.lt_of_le_of_lt (Int.natAbs_ediv_le_natAbs a b) h
theorem Sz.of_lt {c : Int} (h : Sz n c) (h0 : 0 ≤ a) (h1 : a < c) : Sz n a := by unfold Sz at *; omega
theorem Sz.of_abs {c : Int} (h : Sz n c) (h0 : -c ≤ a) (h1 : a ≤ c) : Sz n a := by unfold Sz at *; omega
theorem mulOk_sz (h : Sz n a) (k : Sz m b) (l : n + m < 1000000) : mulOk a b = true := by
  unfold mulOk
  rw [decide_eq_true_eq]
  have := h.log
  have := k.log
  omega
end
def bHalf : List IS := [(.iff (.cmp .gt (.idx (.bor 0) (.cst (.int 2))) (.cst (.int 0))) [(.set 4 (.bin .mod (.blt .int (.idx (.bor 0) (.cst (.int 2)))) (.var 1))), (.sto 0 (.cst (.int 2)) (.bin .fdiv (.idx (.bor 0) (.cst (.int 2))) (.var 1))), (.ret (.mov 4))] []), (.set 2 (.idx (.bor 0) (.cst (.int 3)))), (.sto 0 (.cst (.int 3)) (.bin .mod (.blt .int (.bin .add (.bin .add (.bin .add (.bin .mul (.var 2) (.cst (.int 16807))) (.bin .mul (.bin .fdiv (.var 2) (.cst (.int 127))) (.cst (.int 69621)))) (.bin .mul (.idx (.bor 0) (.cst (.int 4))) (.cst (.int 1299721)))) (.cst (.int 12345)))) (.cst (.int 2147483629)))), (.ret (.bin .mod (.blt .int (.bin .add (.bin .fdiv (.idx (.bor 0) (.cst (.int 3))) (.cst (.int 83))) (.bin .mul (.bin .mod (.blt .int (.idx (.bor 0) (.cst (.int 3)))) (.cst (.int 7919))) (.cst (.int 53))))) (.var 1)))]
def bDraw : List IS := (.sto 0 (.cst (.int 4)) (.bin .add (.idx (.bor 0) (.cst (.int 4))) (.cst (.int 1)))) :: (.iff (.and [(.cmp .eq (.idx (.bor 0) (.cst (.int 2))) (.cst (.int 0))), (.cmp .lt (.idx (.bor 0) (.cst (.int 1))) (.blt .len (.idx (.bor 0) (.cst (.int 0)))))]) [(.set 3 (.idx (.idx (.bor 0) (.cst (.int 0))) (.idx (.bor 0) (.cst (.int 1))))), (.sto 0 (.cst (.int 1)) (.bin .add (.idx (.bor 0) (.cst (.int 1))) (.cst (.int 1)))), (.iff (.cmp .ge (.var 3) (.bin .pow (.cst (.int 10)) (.cst (.int 18)))) [(.sto 0 (.cst (.int 2)) (.var 3))] [(.sto 0 (.cst (.int 3)) (.bin .mod (.blt .int (.bin .add (.bin .add (.bin .mul (.idx (.bor 0) (.cst (.int 3))) (.cst (.int 39373))) (.bin .mul (.bin .mod (.blt .int (.var 3)) (.cst (.int 2147483543))) (.cst (.int 40692)))) (.cst (.int 31)))) (.cst (.int 2147483629))))])] []) :: bHalf
/-- the bag of draws: n bounds how often was drawn -/
def bagV (sc : List Int) (p g s c : Int) : OV := .lst [.d (.lst (sc.map .int)), .d (.int p), .d (.int g), .d (.int s), .d (.int c)]
structure Bag (b : OV) (n : Nat) : Prop where
  ex : ∃ sc p g s c, b = bagV sc p g s c ∧ 0 ≤ p ∧ 0 ≤ g ∧ 0 ≤ s ∧ s < 2147483629 ∧ 0 ≤ c ∧ c ≤ n
theorem Bag.mono {b : OV} {n m : Nat} (h : Bag b n) (l : n ≤ m) : Bag b m := by
  obtain ⟨sc, p, g, s, c, e, h1, h2, h3, h4, h5, h6⟩ := h.ex
  exact ⟨sc, p, g, s, c, e, h1, h2, h3, h4, h5, by omega⟩
theorem z31 : Sz 31 2147483629 := by unfold Sz; decide
theorem z31b : Sz 31 2147483543 := by unfold Sz; decide
theorem z16 : Sz 16 48271 := by unfold Sz; decide
theorem z16b : Sz 16 39373 := by unfold Sz; decide
theorem z16c : Sz 16 40692 := by unfold Sz; decide
theorem z17 : Sz 17 69621 := by unfold Sz; decide
theorem z15 : Sz 15 16807 := by unfold Sz; decide
theorem z21 : Sz 21 1299721 := by unfold Sz; decide
theorem z13 : Sz 13 7919 := by unfold Sz; decide
theorem z6 : Sz 6 53 := by unfold Sz; decide
theorem l127 : (Int.natAbs 127).log2 < 9000 := Nat.lt_of_le_of_lt (Sz.log (n := 7) (by unfold Sz; decide)) (by decide)
theorem l83 : (Int.natAbs 83).log2 < 9000 := Nat.lt_of_le_of_lt (Sz.log (n := 7) (by unfold Sz; decide)) (by decide)
theorem cntSz {c : Int} {n : Nat} (h0 : 0 ≤ c) (h1 : c ≤ n) (hn : n < 1000000000) : Sz 30 (c + 1) := by
  have e : (2 : Nat) ^ 30 = 1073741824 := by decide
  unfold Sz
  rw [e]
  omega
section
variable {P : Nat → Option Def} {C : Nat → Option D} {N k f : Nat}
def DrawQ (n : Nat) (sides : Int) (r b' : OV) : Prop := ∃ d, r = OV.d (D.int d) ∧ Bag b' (n + 1) ∧ 0 ≤ d ∧ d < sides
theorem draw_half {sc : List Int} {c sides : Int} {n : Nat} (hc : 0 ≤ c) (hc2 : c ≤ n) (hn : n < 1000000000) (h0 : 0 < sides) (hlog : sides.natAbs.log2 < 9000) (x3 x4 x2 : Option OV) (p g s : Int) (hp : 0 ≤ p) (hg : 0 ≤ g) (hs : 0 ≤ s) (hs2 : s < 2147483629) :
    run (evSs (PG P C N k) C N bHalf) [some (.lst [.d (.lst (sc.map .int)), .d (.int p), .d (.int g), .d (.int s), .d (.int (c + 1))]), some (OV.d (D.int sides)), x2, x3, x4] (finX (DrawQ n sides)) := by
  have fin1 : ∀ (d : Int) (p g s : Int) (xs : En), 0 ≤ p → 0 ≤ g → 0 ≤ s → s < 2147483629 → 0 ≤ d → d < sides → finX (DrawQ n sides) (.ret (.d (.int d))) (some (.lst [.d (.lst (sc.map .int)), .d (.int p), .d (.int g), .d (.int s), .d (.int (c + 1))]) :: xs) := fun d p g s xs a1 a2 a3 a4 a5 a6 =>
    ⟨d, rfl, ⟨sc, p, g, s, c + 1, rfl, a1, a2, a3, a4, by omega, by omega⟩, a5, a6⟩
  generalize finX (DrawQ n sides) = R at fin1
  unfold bHalf
  refine seq_run fun K0 o1 o2 => ?_
  simp -implicitDefEqProofs only [↓run_cons, ↓run_nil, ↓run_asg, ↓run_set, ↓run_par, ↓run_exp, ↓run_retS, ↓run_retN, ↓run_pass, ↓run_brk, ↓run_cnt, ↓run_iff, ↓run_sto, ↓run_lop, ↓run_ret, ↓run_bind, ↓run_fz, ↓run_stuck, ↓run_var, ↓run_mov, ↓run_has, ↓run_bor, ↓run_put, ↓run_opt, ↓run_callP, ↓run_callIO, ↓run_not, ↓run_mB, ↓look_some, ↓opt_some, ↓optP_some, ↓optIO_some, ↓flow_next, ↓flow_brk, ↓flow_cnt, ↓flow_ret, ↓pick_true, ↓pick_false, cond_and, run_add_int, run_sub_int, run_mul_int, run_fdiv_int, run_mod_int, run_pow_int, run_neg_int, run_idx_tup, run_idx_lst, run_lt_int, run_le_int, run_eq_int, run_tup, run_lstV, run_len_lst, run_len_tup, run_abs_int, run_int_int, run_list_lst, run_list_tup, run_tuple_lst, run_tuple_tup, run_slc_lst, run_slc_tup, run_slc_rol, run_max2, run_min2, run_isN, Option.toList,  run_if, run_ret, run_bind, run_fz, run_var, run_mov, run_has, run_bor, run_put, run_opt, run_callP, run_callIO, run_not, run_mB, look_some, opt_some, optP_some, optIO_some, atI_0, atI_1, atI_2, atI_3, atI_4, ds_of, flat_lst, fz_lst, fz_d, flat_d, lstOf_lst, own_lst, ev, evs, IR.pv, valOf, ev1, ev2, ev2T, chnM, iteM, slcM, endOf, seqD, vBin, vCmp, andV, orV, andT, orT, vTru, putTg, putTgs, IE.isNop, fin, finIO, slot0, startE, List.length_cons, List.length_nil, List.length_set, List.map_cons, List.map_nil, List.cons_append, List.nil_append, List.append_nil, List.getElem?_cons_zero, List.getElem?_cons_succ, List.set_cons_zero, List.set_cons_succ, List.replicate, fzs_d, OV.ds, OV.flat, OV.fz, OV.fzs, lstOf, Option.map_some, Bool.decide_eq_true, if_true, if_false, Bool.false_eq_true, Bool.not_true, Bool.not_false, decide_true, decide_false, wipeE, backE, hideL, stoF_0, stoF_1, stoF_2, stoF_3, stoF_4, finX, finP, sl_0, sl_1, sl_2, sl_3, sl_4, sl_5, sl_6, sl_7, sl_8, sl_9, sl_10, sl_11, sl_12, sl_13, sl_14, sl_15, sl_16, sl_17, sl_18, sl_19, sl_20, sl_21, sl_22, sl_23, sl_24, sl_25, sl_26, sl_27, sl_28, sl_29, sl_30, sl_31, sl_32, true_and, and_true, Nat.sub_self, Nat.reduceAdd, Nat.reduceSub, Nat.reduceLT, Nat.reduceLeDiff, Nat.zero_lt_succ, Nat.zero_le]
  refine pick_dec (fun hgt => ?_) (fun hle => ?_)
  · refine seq_run fun K k1 k2 => ?_
    simp -implicitDefEqProofs only [↓run_cons, ↓run_nil, ↓run_asg, ↓run_set, ↓run_par, ↓run_exp, ↓run_retS, ↓run_retN, ↓run_pass, ↓run_brk, ↓run_cnt, ↓run_iff, ↓run_sto, ↓run_lop, ↓run_ret, ↓run_bind, ↓run_fz, ↓run_stuck, ↓run_var, ↓run_mov, ↓run_has, ↓run_bor, ↓run_put, ↓run_opt, ↓run_callP, ↓run_callIO, ↓run_not, ↓run_mB, ↓look_some, ↓opt_some, ↓optP_some, ↓optIO_some, ↓flow_next, ↓flow_brk, ↓flow_cnt, ↓flow_ret, ↓pick_true, ↓pick_false, cond_and, run_add_int, run_sub_int, run_mul_int, run_fdiv_int, run_mod_int, run_pow_int, run_neg_int, run_idx_tup, run_idx_lst, run_lt_int, run_le_int, run_eq_int, run_tup, run_lstV, run_len_lst, run_len_tup, run_abs_int, run_int_int, run_list_lst, run_list_tup, run_tuple_lst, run_tuple_tup, run_slc_lst, run_slc_tup, run_slc_rol, run_max2, run_min2, run_isN, Option.toList,  run_if, run_ret, run_bind, run_fz, run_var, run_mov, run_has, run_bor, run_put, run_opt, run_callP, run_callIO, run_not, run_mB, look_some, opt_some, optP_some, optIO_some, atI_0, atI_1, atI_2, atI_3, atI_4, ds_of, flat_lst, fz_lst, fz_d, flat_d, lstOf_lst, own_lst, ev, evs, IR.pv, valOf, ev1, ev2, ev2T, chnM, iteM, slcM, endOf, seqD, vBin, vCmp, andV, orV, andT, orT, vTru, putTg, putTgs, IE.isNop, fin, finIO, slot0, startE, List.length_cons, List.length_nil, List.length_set, List.map_cons, List.map_nil, List.cons_append, List.nil_append, List.append_nil, List.getElem?_cons_zero, List.getElem?_cons_succ, List.set_cons_zero, List.set_cons_succ, List.replicate, fzs_d, OV.ds, OV.flat, OV.fz, OV.fzs, lstOf, Option.map_some, Bool.decide_eq_true, if_true, if_false, Bool.false_eq_true, Bool.not_true, Bool.not_false, decide_true, decide_false, wipeE, backE, hideL, stoF_0, stoF_1, stoF_2, stoF_3, stoF_4, finX, finP, sl_0, sl_1, sl_2, sl_3, sl_4, sl_5, sl_6, sl_7, sl_8, sl_9, sl_10, sl_11, sl_12, sl_13, sl_14, sl_15, sl_16, sl_17, sl_18, sl_19, sl_20, sl_21, sl_22, sl_23, sl_24, sl_25, sl_26, sl_27, sl_28, sl_29, sl_30, sl_31, sl_32, true_and, and_true, Nat.sub_self, Nat.reduceAdd, Nat.reduceSub, Nat.reduceLT, Nat.reduceLeDiff, Nat.zero_lt_succ, Nat.zero_le]
    refine ⟨h0, k1 _ ?_⟩
    refine seq_run fun K k1 k2 => ?_
    simp -implicitDefEqProofs only [↓run_cons, ↓run_nil, ↓run_asg, ↓run_set, ↓run_par, ↓run_exp, ↓run_retS, ↓run_retN, ↓run_pass, ↓run_brk, ↓run_cnt, ↓run_iff, ↓run_sto, ↓run_lop, ↓run_ret, ↓run_bind, ↓run_fz, ↓run_stuck, ↓run_var, ↓run_mov, ↓run_has, ↓run_bor, ↓run_put, ↓run_opt, ↓run_callP, ↓run_callIO, ↓run_not, ↓run_mB, ↓look_some, ↓opt_some, ↓optP_some, ↓optIO_some, ↓flow_next, ↓flow_brk, ↓flow_cnt, ↓flow_ret, ↓pick_true, ↓pick_false, cond_and, run_add_int, run_sub_int, run_mul_int, run_fdiv_int, run_mod_int, run_pow_int, run_neg_int, run_idx_tup, run_idx_lst, run_lt_int, run_le_int, run_eq_int, run_tup, run_lstV, run_len_lst, run_len_tup, run_abs_int, run_int_int, run_list_lst, run_list_tup, run_tuple_lst, run_tuple_tup, run_slc_lst, run_slc_tup, run_slc_rol, run_max2, run_min2, run_isN, Option.toList,  run_if, run_ret, run_bind, run_fz, run_var, run_mov, run_has, run_bor, run_put, run_opt, run_callP, run_callIO, run_not, run_mB, look_some, opt_some, optP_some, optIO_some, atI_0, atI_1, atI_2, atI_3, atI_4, ds_of, flat_lst, fz_lst, fz_d, flat_d, lstOf_lst, own_lst, ev, evs, IR.pv, valOf, ev1, ev2, ev2T, chnM, iteM, slcM, endOf, seqD, vBin, vCmp, andV, orV, andT, orT, vTru, putTg, putTgs, IE.isNop, fin, finIO, slot0, startE, List.length_cons, List.length_nil, List.length_set, List.map_cons, List.map_nil, List.cons_append, List.nil_append, List.append_nil, List.getElem?_cons_zero, List.getElem?_cons_succ, List.set_cons_zero, List.set_cons_succ, List.replicate, fzs_d, OV.ds, OV.flat, OV.fz, OV.fzs, lstOf, Option.map_some, Bool.decide_eq_true, if_true, if_false, Bool.false_eq_true, Bool.not_true, Bool.not_false, decide_true, decide_false, wipeE, backE, hideL, stoF_0, stoF_1, stoF_2, stoF_3, stoF_4, finX, finP, sl_0, sl_1, sl_2, sl_3, sl_4, sl_5, sl_6, sl_7, sl_8, sl_9, sl_10, sl_11, sl_12, sl_13, sl_14, sl_15, sl_16, sl_17, sl_18, sl_19, sl_20, sl_21, sl_22, sl_23, sl_24, sl_25, sl_26, sl_27, sl_28, sl_29, sl_30, sl_31, sl_32, true_and, and_true, Nat.sub_self, Nat.reduceAdd, Nat.reduceSub, Nat.reduceLT, Nat.reduceLeDiff, Nat.zero_lt_succ, Nat.zero_le]
    refine ⟨⟨h0, hlog⟩, k1 _ ?_⟩
    refine seq_run fun K k1 k3 => ?_
    simp -implicitDefEqProofs only [↓run_cons, ↓run_nil, ↓run_asg, ↓run_set, ↓run_par, ↓run_exp, ↓run_retS, ↓run_retN, ↓run_pass, ↓run_brk, ↓run_cnt, ↓run_iff, ↓run_sto, ↓run_lop, ↓run_ret, ↓run_bind, ↓run_fz, ↓run_stuck, ↓run_var, ↓run_mov, ↓run_has, ↓run_bor, ↓run_put, ↓run_opt, ↓run_callP, ↓run_callIO, ↓run_not, ↓run_mB, ↓look_some, ↓opt_some, ↓optP_some, ↓optIO_some, ↓flow_next, ↓flow_brk, ↓flow_cnt, ↓flow_ret, ↓pick_true, ↓pick_false, cond_and, run_add_int, run_sub_int, run_mul_int, run_fdiv_int, run_mod_int, run_pow_int, run_neg_int, run_idx_tup, run_idx_lst, run_lt_int, run_le_int, run_eq_int, run_tup, run_lstV, run_len_lst, run_len_tup, run_abs_int, run_int_int, run_list_lst, run_list_tup, run_tuple_lst, run_tuple_tup, run_slc_lst, run_slc_tup, run_slc_rol, run_max2, run_min2, run_isN, Option.toList,  run_if, run_ret, run_bind, run_fz, run_var, run_mov, run_has, run_bor, run_put, run_opt, run_callP, run_callIO, run_not, run_mB, look_some, opt_some, optP_some, optIO_some, atI_0, atI_1, atI_2, atI_3, atI_4, ds_of, flat_lst, fz_lst, fz_d, flat_d, lstOf_lst, own_lst, ev, evs, IR.pv, valOf, ev1, ev2, ev2T, chnM, iteM, slcM, endOf, seqD, vBin, vCmp, andV, orV, andT, orT, vTru, putTg, putTgs, IE.isNop, fin, finIO, slot0, startE, List.length_cons, List.length_nil, List.length_set, List.map_cons, List.map_nil, List.cons_append, List.nil_append, List.append_nil, List.getElem?_cons_zero, List.getElem?_cons_succ, List.set_cons_zero, List.set_cons_succ, List.replicate, fzs_d, OV.ds, OV.flat, OV.fz, OV.fzs, lstOf, Option.map_some, Bool.decide_eq_true, if_true, if_false, Bool.false_eq_true, Bool.not_true, Bool.not_false, decide_true, decide_false, wipeE, backE, hideL, stoF_0, stoF_1, stoF_2, stoF_3, stoF_4, finX, finP, sl_0, sl_1, sl_2, sl_3, sl_4, sl_5, sl_6, sl_7, sl_8, sl_9, sl_10, sl_11, sl_12, sl_13, sl_14, sl_15, sl_16, sl_17, sl_18, sl_19, sl_20, sl_21, sl_22, sl_23, sl_24, sl_25, sl_26, sl_27, sl_28, sl_29, sl_30, sl_31, sl_32, true_and, and_true, Nat.sub_self, Nat.reduceAdd, Nat.reduceSub, Nat.reduceLT, Nat.reduceLeDiff, Nat.zero_lt_succ, Nat.zero_le]
    exact k3 _ _ ret_ne (o2 _ _ ret_ne (fin1 _ _ _ _ _ hp (Int.ediv_nonneg hg (Int.le_of_lt h0)) hs hs2 (Int.emod_nonneg _ (Int.ne_of_gt h0)) (Int.emod_lt_of_pos _ h0)))
  · simp -implicitDefEqProofs only [↓run_cons, ↓run_nil, ↓run_asg, ↓run_set, ↓run_par, ↓run_exp, ↓run_retS, ↓run_retN, ↓run_pass, ↓run_brk, ↓run_cnt, ↓run_iff, ↓run_sto, ↓run_lop, ↓run_ret, ↓run_bind, ↓run_fz, ↓run_stuck, ↓run_var, ↓run_mov, ↓run_has, ↓run_bor, ↓run_put, ↓run_opt, ↓run_callP, ↓run_callIO, ↓run_not, ↓run_mB, ↓look_some, ↓opt_some, ↓optP_some, ↓optIO_some, ↓flow_next, ↓flow_brk, ↓flow_cnt, ↓flow_ret, ↓pick_true, ↓pick_false, cond_and, run_add_int, run_sub_int, run_mul_int, run_fdiv_int, run_mod_int, run_pow_int, run_neg_int, run_idx_tup, run_idx_lst, run_lt_int, run_le_int, run_eq_int, run_tup, run_lstV, run_len_lst, run_len_tup, run_abs_int, run_int_int, run_list_lst, run_list_tup, run_tuple_lst, run_tuple_tup, run_slc_lst, run_slc_tup, run_slc_rol, run_max2, run_min2, run_isN, Option.toList,  run_if, run_ret, run_bind, run_fz, run_var, run_mov, run_has, run_bor, run_put, run_opt, run_callP, run_callIO, run_not, run_mB, look_some, opt_some, optP_some, optIO_some, atI_0, atI_1, atI_2, atI_3, atI_4, ds_of, flat_lst, fz_lst, fz_d, flat_d, lstOf_lst, own_lst, ev, evs, IR.pv, valOf, ev1, ev2, ev2T, chnM, iteM, slcM, endOf, seqD, vBin, vCmp, andV, orV, andT, orT, vTru, putTg, putTgs, IE.isNop, fin, finIO, slot0, startE, List.length_cons, List.length_nil, List.length_set, List.map_cons, List.map_nil, List.cons_append, List.nil_append, List.append_nil, List.getElem?_cons_zero, List.getElem?_cons_succ, List.set_cons_zero, List.set_cons_succ, List.replicate, fzs_d, OV.ds, OV.flat, OV.fz, OV.fzs, lstOf, Option.map_some, Bool.decide_eq_true, if_true, if_false, Bool.false_eq_true, Bool.not_true, Bool.not_false, decide_true, decide_false, wipeE, backE, hideL, stoF_0, stoF_1, stoF_2, stoF_3, stoF_4, finX, finP, sl_0, sl_1, sl_2, sl_3, sl_4, sl_5, sl_6, sl_7, sl_8, sl_9, sl_10, sl_11, sl_12, sl_13, sl_14, sl_15, sl_16, sl_17, sl_18, sl_19, sl_20, sl_21, sl_22, sl_23, sl_24, sl_25, sl_26, sl_27, sl_28, sl_29, sl_30, sl_31, sl_32, true_and, and_true, Nat.sub_self, Nat.reduceAdd, Nat.reduceSub, Nat.reduceLT, Nat.reduceLeDiff, Nat.zero_lt_succ, Nat.zero_le]
    refine o1 _ ?_
    refine seq_run fun K k1 k2 => ?_
    simp -implicitDefEqProofs only [↓run_cons, ↓run_nil, ↓run_asg, ↓run_set, ↓run_par, ↓run_exp, ↓run_retS, ↓run_retN, ↓run_pass, ↓run_brk, ↓run_cnt, ↓run_iff, ↓run_sto, ↓run_lop, ↓run_ret, ↓run_bind, ↓run_fz, ↓run_stuck, ↓run_var, ↓run_mov, ↓run_has, ↓run_bor, ↓run_put, ↓run_opt, ↓run_callP, ↓run_callIO, ↓run_not, ↓run_mB, ↓look_some, ↓opt_some, ↓optP_some, ↓optIO_some, ↓flow_next, ↓flow_brk, ↓flow_cnt, ↓flow_ret, ↓pick_true, ↓pick_false, cond_and, run_add_int, run_sub_int, run_mul_int, run_fdiv_int, run_mod_int, run_pow_int, run_neg_int, run_idx_tup, run_idx_lst, run_lt_int, run_le_int, run_eq_int, run_tup, run_lstV, run_len_lst, run_len_tup, run_abs_int, run_int_int, run_list_lst, run_list_tup, run_tuple_lst, run_tuple_tup, run_slc_lst, run_slc_tup, run_slc_rol, run_max2, run_min2, run_isN, Option.toList,  run_if, run_ret, run_bind, run_fz, run_var, run_mov, run_has, run_bor, run_put, run_opt, run_callP, run_callIO, run_not, run_mB, look_some, opt_some, optP_some, optIO_some, atI_0, atI_1, atI_2, atI_3, atI_4, ds_of, flat_lst, fz_lst, fz_d, flat_d, lstOf_lst, own_lst, ev, evs, IR.pv, valOf, ev1, ev2, ev2T, chnM, iteM, slcM, endOf, seqD, vBin, vCmp, andV, orV, andT, orT, vTru, putTg, putTgs, IE.isNop, fin, finIO, slot0, startE, List.length_cons, List.length_nil, List.length_set, List.map_cons, List.map_nil, List.cons_append, List.nil_append, List.append_nil, List.getElem?_cons_zero, List.getElem?_cons_succ, List.set_cons_zero, List.set_cons_succ, List.replicate, fzs_d, OV.ds, OV.flat, OV.fz, OV.fzs, lstOf, Option.map_some, Bool.decide_eq_true, if_true, if_false, Bool.false_eq_true, Bool.not_true, Bool.not_false, decide_true, decide_false, wipeE, backE, hideL, stoF_0, stoF_1, stoF_2, stoF_3, stoF_4, finX, finP, sl_0, sl_1, sl_2, sl_3, sl_4, sl_5, sl_6, sl_7, sl_8, sl_9, sl_10, sl_11, sl_12, sl_13, sl_14, sl_15, sl_16, sl_17, sl_18, sl_19, sl_20, sl_21, sl_22, sl_23, sl_24, sl_25, sl_26, sl_27, sl_28, sl_29, sl_30, sl_31, sl_32, true_and, and_true, Nat.sub_self, Nat.reduceAdd, Nat.reduceSub, Nat.reduceLT, Nat.reduceLeDiff, Nat.zero_lt_succ, Nat.zero_le]
    refine k1 _ ?_
    have z1 : Sz 31 s := z31.of_lt hs hs2
    have e3 := Int.emod_nonneg (s * 16807 + s / 127 * 69621 + (c + 1) * 1299721 + 12345) (show (2147483629 : Int) ≠ 0 by decide)
    have e4 := Int.emod_lt_of_pos (s * 16807 + s / 127 * 69621 + (c + 1) * 1299721 + 12345) (show (0 : Int) < 2147483629 by decide)
    refine seq_run fun K k1 k2 => ?_
    simp -implicitDefEqProofs only [↓run_cons, ↓run_nil, ↓run_asg, ↓run_set, ↓run_par, ↓run_exp, ↓run_retS, ↓run_retN, ↓run_pass, ↓run_brk, ↓run_cnt, ↓run_iff, ↓run_sto, ↓run_lop, ↓run_ret, ↓run_bind, ↓run_fz, ↓run_stuck, ↓run_var, ↓run_mov, ↓run_has, ↓run_bor, ↓run_put, ↓run_opt, ↓run_callP, ↓run_callIO, ↓run_not, ↓run_mB, ↓look_some, ↓opt_some, ↓optP_some, ↓optIO_some, ↓flow_next, ↓flow_brk, ↓flow_cnt, ↓flow_ret, ↓pick_true, ↓pick_false, cond_and, run_add_int, run_sub_int, run_mul_int, run_fdiv_int, run_mod_int, run_pow_int, run_neg_int, run_idx_tup, run_idx_lst, run_lt_int, run_le_int, run_eq_int, run_tup, run_lstV, run_len_lst, run_len_tup, run_abs_int, run_int_int, run_list_lst, run_list_tup, run_tuple_lst, run_tuple_tup, run_slc_lst, run_slc_tup, run_slc_rol, run_max2, run_min2, run_isN, Option.toList,  run_if, run_ret, run_bind, run_fz, run_var, run_mov, run_has, run_bor, run_put, run_opt, run_callP, run_callIO, run_not, run_mB, look_some, opt_some, optP_some, optIO_some, atI_0, atI_1, atI_2, atI_3, atI_4, ds_of, flat_lst, fz_lst, fz_d, flat_d, lstOf_lst, own_lst, ev, evs, IR.pv, valOf, ev1, ev2, ev2T, chnM, iteM, slcM, endOf, seqD, vBin, vCmp, andV, orV, andT, orT, vTru, putTg, putTgs, IE.isNop, fin, finIO, slot0, startE, List.length_cons, List.length_nil, List.length_set, List.map_cons, List.map_nil, List.cons_append, List.nil_append, List.append_nil, List.getElem?_cons_zero, List.getElem?_cons_succ, List.set_cons_zero, List.set_cons_succ, List.replicate, fzs_d, OV.ds, OV.flat, OV.fz, OV.fzs, lstOf, Option.map_some, Bool.decide_eq_true, if_true, if_false, Bool.false_eq_true, Bool.not_true, Bool.not_false, decide_true, decide_false, wipeE, backE, hideL, stoF_0, stoF_1, stoF_2, stoF_3, stoF_4, finX, finP, sl_0, sl_1, sl_2, sl_3, sl_4, sl_5, sl_6, sl_7, sl_8, sl_9, sl_10, sl_11, sl_12, sl_13, sl_14, sl_15, sl_16, sl_17, sl_18, sl_19, sl_20, sl_21, sl_22, sl_23, sl_24, sl_25, sl_26, sl_27, sl_28, sl_29, sl_30, sl_31, sl_32, true_and, and_true, Nat.sub_self, Nat.reduceAdd, Nat.reduceSub, Nat.reduceLT, Nat.reduceLeDiff, Nat.zero_lt_succ, Nat.zero_le]
    refine ⟨mulOk_sz z1 z15 (by decide), ⟨by decide, l127⟩, mulOk_sz z1.div z17 (by decide), mulOk_sz (cntSz hc hc2 hn) z21 (by decide), by decide, k1 _ ?_⟩
    generalize (s * 16807 + s / 127 * 69621 + (c + 1) * 1299721 + 12345) % 2147483629 = z at e3 e4 ⊢
    refine seq_run fun K k1 k2 => ?_
    simp -implicitDefEqProofs only [↓run_cons, ↓run_nil, ↓run_asg, ↓run_set, ↓run_par, ↓run_exp, ↓run_retS, ↓run_retN, ↓run_pass, ↓run_brk, ↓run_cnt, ↓run_iff, ↓run_sto, ↓run_lop, ↓run_ret, ↓run_bind, ↓run_fz, ↓run_stuck, ↓run_var, ↓run_mov, ↓run_has, ↓run_bor, ↓run_put, ↓run_opt, ↓run_callP, ↓run_callIO, ↓run_not, ↓run_mB, ↓look_some, ↓opt_some, ↓optP_some, ↓optIO_some, ↓flow_next, ↓flow_brk, ↓flow_cnt, ↓flow_ret, ↓pick_true, ↓pick_false, cond_and, run_add_int, run_sub_int, run_mul_int, run_fdiv_int, run_mod_int, run_pow_int, run_neg_int, run_idx_tup, run_idx_lst, run_lt_int, run_le_int, run_eq_int, run_tup, run_lstV, run_len_lst, run_len_tup, run_abs_int, run_int_int, run_list_lst, run_list_tup, run_tuple_lst, run_tuple_tup, run_slc_lst, run_slc_tup, run_slc_rol, run_max2, run_min2, run_isN, Option.toList,  run_if, run_ret, run_bind, run_fz, run_var, run_mov, run_has, run_bor, run_put, run_opt, run_callP, run_callIO, run_not, run_mB, look_some, opt_some, optP_some, optIO_some, atI_0, atI_1, atI_2, atI_3, atI_4, ds_of, flat_lst, fz_lst, fz_d, flat_d, lstOf_lst, own_lst, ev, evs, IR.pv, valOf, ev1, ev2, ev2T, chnM, iteM, slcM, endOf, seqD, vBin, vCmp, andV, orV, andT, orT, vTru, putTg, putTgs, IE.isNop, fin, finIO, slot0, startE, List.length_cons, List.length_nil, List.length_set, List.map_cons, List.map_nil, List.cons_append, List.nil_append, List.append_nil, List.getElem?_cons_zero, List.getElem?_cons_succ, List.set_cons_zero, List.set_cons_succ, List.replicate, fzs_d, OV.ds, OV.flat, OV.fz, OV.fzs, lstOf, Option.map_some, Bool.decide_eq_true, if_true, if_false, Bool.false_eq_true, Bool.not_true, Bool.not_false, decide_true, decide_false, wipeE, backE, hideL, stoF_0, stoF_1, stoF_2, stoF_3, stoF_4, finX, finP, sl_0, sl_1, sl_2, sl_3, sl_4, sl_5, sl_6, sl_7, sl_8, sl_9, sl_10, sl_11, sl_12, sl_13, sl_14, sl_15, sl_16, sl_17, sl_18, sl_19, sl_20, sl_21, sl_22, sl_23, sl_24, sl_25, sl_26, sl_27, sl_28, sl_29, sl_30, sl_31, sl_32, true_and, and_true, Nat.sub_self, Nat.reduceAdd, Nat.reduceSub, Nat.reduceLT, Nat.reduceLeDiff, Nat.zero_lt_succ, Nat.zero_le]
    exact ⟨⟨by decide, l83⟩, by decide, mulOk_sz (z13.mod (by decide)) z6 (by decide), h0, k2 _ _ ret_ne (fin1 _ _ _ _ _ hp hg e3 e4 (Int.emod_nonneg _ (Int.ne_of_gt h0)) (Int.emod_lt_of_pos _ h0))⟩
theorem draw_ex (hd : P f = some ⟨2, true, 5, bDraw⟩) {b : OV} {n : Nat} {sides : Int} (hb : Bag b n) (hn : n < 1000000000) (h0 : 0 < sides) (hlog : sides.natAbs.log2 < 9000) :
    ∃ r b', PG P C N (k + 1) f (some b) [.int sides] = some (.ok r, some b') ∧ DrawQ n sides r b' := by
  obtain ⟨sc, p, g, s, c, rfl, hp, hg, hs, hs2, hc, hc2⟩ := hb.ex
  refine ecall_IOx (d := ⟨2, true, 5, bDraw⟩) hd rfl ?_
  have half := @draw_half P C N k sc c sides n hc hc2 hn h0 hlog
  generalize finX (DrawQ n sides) = R at half ⊢
  unfold bagV bDraw
  refine seq_run fun K k1 k2 => ?_
  simp -implicitDefEqProofs only [↓run_cons, ↓run_nil, ↓run_asg, ↓run_set, ↓run_par, ↓run_exp, ↓run_retS, ↓run_retN, ↓run_pass, ↓run_brk, ↓run_cnt, ↓run_iff, ↓run_sto, ↓run_lop, ↓run_ret, ↓run_bind, ↓run_fz, ↓run_stuck, ↓run_var, ↓run_mov, ↓run_has, ↓run_bor, ↓run_put, ↓run_opt, ↓run_callP, ↓run_callIO, ↓run_not, ↓run_mB, ↓look_some, ↓opt_some, ↓optP_some, ↓optIO_some, ↓flow_next, ↓flow_brk, ↓flow_cnt, ↓flow_ret, ↓pick_true, ↓pick_false, cond_and, run_add_int, run_sub_int, run_mul_int, run_fdiv_int, run_mod_int, run_pow_int, run_neg_int, run_idx_tup, run_idx_lst, run_lt_int, run_le_int, run_eq_int, run_tup, run_lstV, run_len_lst, run_len_tup, run_abs_int, run_int_int, run_list_lst, run_list_tup, run_tuple_lst, run_tuple_tup, run_slc_lst, run_slc_tup, run_slc_rol, run_max2, run_min2, run_isN, Option.toList,  run_if, run_ret, run_bind, run_fz, run_var, run_mov, run_has, run_bor, run_put, run_opt, run_callP, run_callIO, run_not, run_mB, look_some, opt_some, optP_some, optIO_some, atI_0, atI_1, atI_2, atI_3, atI_4, ds_of, flat_lst, fz_lst, fz_d, flat_d, lstOf_lst, own_lst, ev, evs, IR.pv, valOf, ev1, ev2, ev2T, chnM, iteM, slcM, endOf, seqD, vBin, vCmp, andV, orV, andT, orT, vTru, putTg, putTgs, IE.isNop, fin, finIO, slot0, startE, List.length_cons, List.length_nil, List.length_set, List.map_cons, List.map_nil, List.cons_append, List.nil_append, List.append_nil, List.getElem?_cons_zero, List.getElem?_cons_succ, List.set_cons_zero, List.set_cons_succ, List.replicate, fzs_d, OV.ds, OV.flat, OV.fz, OV.fzs, lstOf, Option.map_some, Bool.decide_eq_true, if_true, if_false, Bool.false_eq_true, Bool.not_true, Bool.not_false, decide_true, decide_false, wipeE, backE, hideL, stoF_0, stoF_1, stoF_2, stoF_3, stoF_4, finX, finP, sl_0, sl_1, sl_2, sl_3, sl_4, sl_5, sl_6, sl_7, sl_8, sl_9, sl_10, sl_11, sl_12, sl_13, sl_14, sl_15, sl_16, sl_17, sl_18, sl_19, sl_20, sl_21, sl_22, sl_23, sl_24, sl_25, sl_26, sl_27, sl_28, sl_29, sl_30, sl_31, sl_32, true_and, and_true, Nat.sub_self, Nat.reduceAdd, Nat.reduceSub, Nat.reduceLT, Nat.reduceLeDiff, Nat.zero_lt_succ, Nat.zero_le]
  refine k1 _ ?_
  clear k1 k2
  refine seq_run fun K k1 k2 => ?_
  clear k2
  simp -implicitDefEqProofs only [↓run_cons, ↓run_nil, ↓run_asg, ↓run_set, ↓run_par, ↓run_exp, ↓run_retS, ↓run_retN, ↓run_pass, ↓run_brk, ↓run_cnt, ↓run_iff, ↓run_sto, ↓run_lop, ↓run_ret, ↓run_bind, ↓run_fz, ↓run_stuck, ↓run_var, ↓run_mov, ↓run_has, ↓run_bor, ↓run_put, ↓run_opt, ↓run_callP, ↓run_callIO, ↓run_not, ↓run_mB, ↓look_some, ↓opt_some, ↓optP_some, ↓optIO_some, ↓flow_next, ↓flow_brk, ↓flow_cnt, ↓flow_ret, ↓pick_true, ↓pick_false, cond_and, run_add_int, run_sub_int, run_mul_int, run_fdiv_int, run_mod_int, run_pow_int, run_neg_int, run_idx_tup, run_idx_lst, run_lt_int, run_le_int, run_eq_int, run_tup, run_lstV, run_len_lst, run_len_tup, run_abs_int, run_int_int, run_list_lst, run_list_tup, run_tuple_lst, run_tuple_tup, run_slc_lst, run_slc_tup, run_slc_rol, run_max2, run_min2, run_isN, Option.toList,  run_if, run_ret, run_bind, run_fz, run_var, run_mov, run_has, run_bor, run_put, run_opt, run_callP, run_callIO, run_not, run_mB, look_some, opt_some, optP_some, optIO_some, atI_0, atI_1, atI_2, atI_3, atI_4, ds_of, flat_lst, fz_lst, fz_d, flat_d, lstOf_lst, own_lst, ev, evs, IR.pv, valOf, ev1, ev2, ev2T, chnM, iteM, slcM, endOf, seqD, vBin, vCmp, andV, orV, andT, orT, vTru, putTg, putTgs, IE.isNop, fin, finIO, slot0, startE, List.length_cons, List.length_nil, List.length_set, List.map_cons, List.map_nil, List.cons_append, List.nil_append, List.append_nil, List.getElem?_cons_zero, List.getElem?_cons_succ, List.set_cons_zero, List.set_cons_succ, List.replicate, fzs_d, OV.ds, OV.flat, OV.fz, OV.fzs, lstOf, Option.map_some, Bool.decide_eq_true, if_true, if_false, Bool.false_eq_true, Bool.not_true, Bool.not_false, decide_true, decide_false, wipeE, backE, hideL, stoF_0, stoF_1, stoF_2, stoF_3, stoF_4, finX, finP, sl_0, sl_1, sl_2, sl_3, sl_4, sl_5, sl_6, sl_7, sl_8, sl_9, sl_10, sl_11, sl_12, sl_13, sl_14, sl_15, sl_16, sl_17, sl_18, sl_19, sl_20, sl_21, sl_22, sl_23, sl_24, sl_25, sl_26, sl_27, sl_28, sl_29, sl_30, sl_31, sl_32, true_and, and_true, Nat.sub_self, Nat.reduceAdd, Nat.reduceSub, Nat.reduceLT, Nat.reduceLeDiff, Nat.zero_lt_succ, Nat.zero_le]
  refine pick_dec (fun h2 => ?_) (fun h2 => ?_)
  · simp -implicitDefEqProofs only [↓run_cons, ↓run_nil, ↓run_asg, ↓run_set, ↓run_par, ↓run_exp, ↓run_retS, ↓run_retN, ↓run_pass, ↓run_brk, ↓run_cnt, ↓run_iff, ↓run_sto, ↓run_lop, ↓run_ret, ↓run_bind, ↓run_fz, ↓run_stuck, ↓run_var, ↓run_mov, ↓run_has, ↓run_bor, ↓run_put, ↓run_opt, ↓run_callP, ↓run_callIO, ↓run_not, ↓run_mB, ↓look_some, ↓opt_some, ↓optP_some, ↓optIO_some, ↓flow_next, ↓flow_brk, ↓flow_cnt, ↓flow_ret, ↓pick_true, ↓pick_false, cond_and, run_add_int, run_sub_int, run_mul_int, run_fdiv_int, run_mod_int, run_pow_int, run_neg_int, run_idx_tup, run_idx_lst, run_lt_int, run_le_int, run_eq_int, run_tup, run_lstV, run_len_lst, run_len_tup, run_abs_int, run_int_int, run_list_lst, run_list_tup, run_tuple_lst, run_tuple_tup, run_slc_lst, run_slc_tup, run_slc_rol, run_max2, run_min2, run_isN, Option.toList,  run_if, run_ret, run_bind, run_fz, run_var, run_mov, run_has, run_bor, run_put, run_opt, run_callP, run_callIO, run_not, run_mB, look_some, opt_some, optP_some, optIO_some, atI_0, atI_1, atI_2, atI_3, atI_4, ds_of, flat_lst, fz_lst, fz_d, flat_d, lstOf_lst, own_lst, ev, evs, IR.pv, valOf, ev1, ev2, ev2T, chnM, iteM, slcM, endOf, seqD, vBin, vCmp, andV, orV, andT, orT, vTru, putTg, putTgs, IE.isNop, fin, finIO, slot0, startE, List.length_cons, List.length_nil, List.length_set, List.map_cons, List.map_nil, List.cons_append, List.nil_append, List.append_nil, List.getElem?_cons_zero, List.getElem?_cons_succ, List.set_cons_zero, List.set_cons_succ, List.replicate, fzs_d, OV.ds, OV.flat, OV.fz, OV.fzs, lstOf, Option.map_some, Bool.decide_eq_true, if_true, if_false, Bool.false_eq_true, Bool.not_true, Bool.not_false, decide_true, decide_false, wipeE, backE, hideL, stoF_0, stoF_1, stoF_2, stoF_3, stoF_4, finX, finP, sl_0, sl_1, sl_2, sl_3, sl_4, sl_5, sl_6, sl_7, sl_8, sl_9, sl_10, sl_11, sl_12, sl_13, sl_14, sl_15, sl_16, sl_17, sl_18, sl_19, sl_20, sl_21, sl_22, sl_23, sl_24, sl_25, sl_26, sl_27, sl_28, sl_29, sl_30, sl_31, sl_32, true_and, and_true, Nat.sub_self, Nat.reduceAdd, Nat.reduceSub, Nat.reduceLT, Nat.reduceLeDiff, Nat.zero_lt_succ, Nat.zero_le, List.length_map]
    refine pick_dec (fun h3 => ?_) (fun h3 => ?_)
    · have hp3 : p.toNat < sc.length := by omega
      have hat : L2.atI (sc.map D.int) p = some (.int sc[p.toNat]) := by
        rw [atI_pos hp, List.getElem?_map, List.getElem?_eq_getElem hp3]
        rfl
      refine seq_run fun K j1 j2 => ?_
      simp -implicitDefEqProofs only [↓run_cons, ↓run_nil, ↓run_asg, ↓run_set, ↓run_par, ↓run_exp, ↓run_retS, ↓run_retN, ↓run_pass, ↓run_brk, ↓run_cnt, ↓run_iff, ↓run_sto, ↓run_lop, ↓run_ret, ↓run_bind, ↓run_fz, ↓run_stuck, ↓run_var, ↓run_mov, ↓run_has, ↓run_bor, ↓run_put, ↓run_opt, ↓run_callP, ↓run_callIO, ↓run_not, ↓run_mB, ↓look_some, ↓opt_some, ↓optP_some, ↓optIO_some, ↓flow_next, ↓flow_brk, ↓flow_cnt, ↓flow_ret, ↓pick_true, ↓pick_false, cond_and, run_add_int, run_sub_int, run_mul_int, run_fdiv_int, run_mod_int, run_pow_int, run_neg_int, run_idx_tup, run_idx_lst, run_lt_int, run_le_int, run_eq_int, run_tup, run_lstV, run_len_lst, run_len_tup, run_abs_int, run_int_int, run_list_lst, run_list_tup, run_tuple_lst, run_tuple_tup, run_slc_lst, run_slc_tup, run_slc_rol, run_max2, run_min2, run_isN, Option.toList,  run_if, run_ret, run_bind, run_fz, run_var, run_mov, run_has, run_bor, run_put, run_opt, run_callP, run_callIO, run_not, run_mB, look_some, opt_some, optP_some, optIO_some, atI_0, atI_1, atI_2, atI_3, atI_4, ds_of, flat_lst, fz_lst, fz_d, flat_d, lstOf_lst, own_lst, ev, evs, IR.pv, valOf, ev1, ev2, ev2T, chnM, iteM, slcM, endOf, seqD, vBin, vCmp, andV, orV, andT, orT, vTru, putTg, putTgs, IE.isNop, fin, finIO, slot0, startE, List.length_cons, List.length_nil, List.length_set, List.map_cons, List.map_nil, List.cons_append, List.nil_append, List.append_nil, List.getElem?_cons_zero, List.getElem?_cons_succ, List.set_cons_zero, List.set_cons_succ, List.replicate, fzs_d, OV.ds, OV.flat, OV.fz, OV.fzs, lstOf, Option.map_some, Bool.decide_eq_true, if_true, if_false, Bool.false_eq_true, Bool.not_true, Bool.not_false, decide_true, decide_false, wipeE, backE, hideL, stoF_0, stoF_1, stoF_2, stoF_3, stoF_4, finX, finP, sl_0, sl_1, sl_2, sl_3, sl_4, sl_5, sl_6, sl_7, sl_8, sl_9, sl_10, sl_11, sl_12, sl_13, sl_14, sl_15, sl_16, sl_17, sl_18, sl_19, sl_20, sl_21, sl_22, sl_23, sl_24, sl_25, sl_26, sl_27, sl_28, sl_29, sl_30, sl_31, sl_32, true_and, and_true, Nat.sub_self, Nat.reduceAdd, Nat.reduceSub, Nat.reduceLT, Nat.reduceLeDiff, Nat.zero_lt_succ, Nat.zero_le, hat]
      refine j1 _ ?_
      refine seq_run fun K i1 i2 => ?_
      simp -implicitDefEqProofs only [↓run_cons, ↓run_nil, ↓run_asg, ↓run_set, ↓run_par, ↓run_exp, ↓run_retS, ↓run_retN, ↓run_pass, ↓run_brk, ↓run_cnt, ↓run_iff, ↓run_sto, ↓run_lop, ↓run_ret, ↓run_bind, ↓run_fz, ↓run_stuck, ↓run_var, ↓run_mov, ↓run_has, ↓run_bor, ↓run_put, ↓run_opt, ↓run_callP, ↓run_callIO, ↓run_not, ↓run_mB, ↓look_some, ↓opt_some, ↓optP_some, ↓optIO_some, ↓flow_next, ↓flow_brk, ↓flow_cnt, ↓flow_ret, ↓pick_true, ↓pick_false, cond_and, run_add_int, run_sub_int, run_mul_int, run_fdiv_int, run_mod_int, run_pow_int, run_neg_int, run_idx_tup, run_idx_lst, run_lt_int, run_le_int, run_eq_int, run_tup, run_lstV, run_len_lst, run_len_tup, run_abs_int, run_int_int, run_list_lst, run_list_tup, run_tuple_lst, run_tuple_tup, run_slc_lst, run_slc_tup, run_slc_rol, run_max2, run_min2, run_isN, Option.toList,  run_if, run_ret, run_bind, run_fz, run_var, run_mov, run_has, run_bor, run_put, run_opt, run_callP, run_callIO, run_not, run_mB, look_some, opt_some, optP_some, optIO_some, atI_0, atI_1, atI_2, atI_3, atI_4, ds_of, flat_lst, fz_lst, fz_d, flat_d, lstOf_lst, own_lst, ev, evs, IR.pv, valOf, ev1, ev2, ev2T, chnM, iteM, slcM, endOf, seqD, vBin, vCmp, andV, orV, andT, orT, vTru, putTg, putTgs, IE.isNop, fin, finIO, slot0, startE, List.length_cons, List.length_nil, List.length_set, List.map_cons, List.map_nil, List.cons_append, List.nil_append, List.append_nil, List.getElem?_cons_zero, List.getElem?_cons_succ, List.set_cons_zero, List.set_cons_succ, List.replicate, fzs_d, OV.ds, OV.flat, OV.fz, OV.fzs, lstOf, Option.map_some, Bool.decide_eq_true, if_true, if_false, Bool.false_eq_true, Bool.not_true, Bool.not_false, decide_true, decide_false, wipeE, backE, hideL, stoF_0, stoF_1, stoF_2, stoF_3, stoF_4, finX, finP, sl_0, sl_1, sl_2, sl_3, sl_4, sl_5, sl_6, sl_7, sl_8, sl_9, sl_10, sl_11, sl_12, sl_13, sl_14, sl_15, sl_16, sl_17, sl_18, sl_19, sl_20, sl_21, sl_22, sl_23, sl_24, sl_25, sl_26, sl_27, sl_28, sl_29, sl_30, sl_31, sl_32, true_and, and_true, Nat.sub_self, Nat.reduceAdd, Nat.reduceSub, Nat.reduceLT, Nat.reduceLeDiff, Nat.zero_lt_succ, Nat.zero_le]
      refine i1 _ ?_
      refine seq_run fun K l1 l2 => ?_
      simp -implicitDefEqProofs only [↓run_cons, ↓run_nil, ↓run_asg, ↓run_set, ↓run_par, ↓run_exp, ↓run_retS, ↓run_retN, ↓run_pass, ↓run_brk, ↓run_cnt, ↓run_iff, ↓run_sto, ↓run_lop, ↓run_ret, ↓run_bind, ↓run_fz, ↓run_stuck, ↓run_var, ↓run_mov, ↓run_has, ↓run_bor, ↓run_put, ↓run_opt, ↓run_callP, ↓run_callIO, ↓run_not, ↓run_mB, ↓look_some, ↓opt_some, ↓optP_some, ↓optIO_some, ↓flow_next, ↓flow_brk, ↓flow_cnt, ↓flow_ret, ↓pick_true, ↓pick_false, cond_and, run_add_int, run_sub_int, run_mul_int, run_fdiv_int, run_mod_int, run_pow_int, run_neg_int, run_idx_tup, run_idx_lst, run_lt_int, run_le_int, run_eq_int, run_tup, run_lstV, run_len_lst, run_len_tup, run_abs_int, run_int_int, run_list_lst, run_list_tup, run_tuple_lst, run_tuple_tup, run_slc_lst, run_slc_tup, run_slc_rol, run_max2, run_min2, run_isN, Option.toList,  run_if, run_ret, run_bind, run_fz, run_var, run_mov, run_has, run_bor, run_put, run_opt, run_callP, run_callIO, run_not, run_mB, look_some, opt_some, optP_some, optIO_some, atI_0, atI_1, atI_2, atI_3, atI_4, ds_of, flat_lst, fz_lst, fz_d, flat_d, lstOf_lst, own_lst, ev, evs, IR.pv, valOf, ev1, ev2, ev2T, chnM, iteM, slcM, endOf, seqD, vBin, vCmp, andV, orV, andT, orT, vTru, putTg, putTgs, IE.isNop, fin, finIO, slot0, startE, List.length_cons, List.length_nil, List.length_set, List.map_cons, List.map_nil, List.cons_append, List.nil_append, List.append_nil, List.getElem?_cons_zero, List.getElem?_cons_succ, List.set_cons_zero, List.set_cons_succ, List.replicate, fzs_d, OV.ds, OV.flat, OV.fz, OV.fzs, lstOf, Option.map_some, Bool.decide_eq_true, if_true, if_false, Bool.false_eq_true, Bool.not_true, Bool.not_false, decide_true, decide_false, wipeE, backE, hideL, stoF_0, stoF_1, stoF_2, stoF_3, stoF_4, finX, finP, sl_0, sl_1, sl_2, sl_3, sl_4, sl_5, sl_6, sl_7, sl_8, sl_9, sl_10, sl_11, sl_12, sl_13, sl_14, sl_15, sl_16, sl_17, sl_18, sl_19, sl_20, sl_21, sl_22, sl_23, sl_24, sl_25, sl_26, sl_27, sl_28, sl_29, sl_30, sl_31, sl_32, true_and, and_true, Nat.sub_self, Nat.reduceAdd, Nat.reduceSub, Nat.reduceLT, Nat.reduceLeDiff, Nat.zero_lt_succ, Nat.zero_le]
      refine ⟨⟨by decide, by decide, by decide⟩, ?_⟩
      refine pick_dec (fun h4 => ?_) (fun h4 => ?_)
      · simp -implicitDefEqProofs only [↓run_cons, ↓run_nil, ↓run_asg, ↓run_set, ↓run_par, ↓run_exp, ↓run_retS, ↓run_retN, ↓run_pass, ↓run_brk, ↓run_cnt, ↓run_iff, ↓run_sto, ↓run_lop, ↓run_ret, ↓run_bind, ↓run_fz, ↓run_stuck, ↓run_var, ↓run_mov, ↓run_has, ↓run_bor, ↓run_put, ↓run_opt, ↓run_callP, ↓run_callIO, ↓run_not, ↓run_mB, ↓look_some, ↓opt_some, ↓optP_some, ↓optIO_some, ↓flow_next, ↓flow_brk, ↓flow_cnt, ↓flow_ret, ↓pick_true, ↓pick_false, cond_and, run_add_int, run_sub_int, run_mul_int, run_fdiv_int, run_mod_int, run_pow_int, run_neg_int, run_idx_tup, run_idx_lst, run_lt_int, run_le_int, run_eq_int, run_tup, run_lstV, run_len_lst, run_len_tup, run_abs_int, run_int_int, run_list_lst, run_list_tup, run_tuple_lst, run_tuple_tup, run_slc_lst, run_slc_tup, run_slc_rol, run_max2, run_min2, run_isN, Option.toList,  run_if, run_ret, run_bind, run_fz, run_var, run_mov, run_has, run_bor, run_put, run_opt, run_callP, run_callIO, run_not, run_mB, look_some, opt_some, optP_some, optIO_some, atI_0, atI_1, atI_2, atI_3, atI_4, ds_of, flat_lst, fz_lst, fz_d, flat_d, lstOf_lst, own_lst, ev, evs, IR.pv, valOf, ev1, ev2, ev2T, chnM, iteM, slcM, endOf, seqD, vBin, vCmp, andV, orV, andT, orT, vTru, putTg, putTgs, IE.isNop, fin, finIO, slot0, startE, List.length_cons, List.length_nil, List.length_set, List.map_cons, List.map_nil, List.cons_append, List.nil_append, List.append_nil, List.getElem?_cons_zero, List.getElem?_cons_succ, List.set_cons_zero, List.set_cons_succ, List.replicate, fzs_d, OV.ds, OV.flat, OV.fz, OV.fzs, lstOf, Option.map_some, Bool.decide_eq_true, if_true, if_false, Bool.false_eq_true, Bool.not_true, Bool.not_false, decide_true, decide_false, wipeE, backE, hideL, stoF_0, stoF_1, stoF_2, stoF_3, stoF_4, finX, finP, sl_0, sl_1, sl_2, sl_3, sl_4, sl_5, sl_6, sl_7, sl_8, sl_9, sl_10, sl_11, sl_12, sl_13, sl_14, sl_15, sl_16, sl_17, sl_18, sl_19, sl_20, sl_21, sl_22, sl_23, sl_24, sl_25, sl_26, sl_27, sl_28, sl_29, sl_30, sl_31, sl_32, true_and, and_true, Nat.sub_self, Nat.reduceAdd, Nat.reduceSub, Nat.reduceLT, Nat.reduceLeDiff, Nat.zero_lt_succ, Nat.zero_le]
        have e : (10 : Int) ^ (Int.toNat 18) = 1000000000000000000 := by decide
        rw [e] at h4
        refine l1 _ ?_
        simp -implicitDefEqProofs only [↓run_cons, ↓run_nil, ↓run_asg, ↓run_set, ↓run_par, ↓run_exp, ↓run_retS, ↓run_retN, ↓run_pass, ↓run_brk, ↓run_cnt, ↓run_iff, ↓run_sto, ↓run_lop, ↓run_ret, ↓run_bind, ↓run_fz, ↓run_stuck, ↓run_var, ↓run_mov, ↓run_has, ↓run_bor, ↓run_put, ↓run_opt, ↓run_callP, ↓run_callIO, ↓run_not, ↓run_mB, ↓look_some, ↓opt_some, ↓optP_some, ↓optIO_some, ↓flow_next, ↓flow_brk, ↓flow_cnt, ↓flow_ret, ↓pick_true, ↓pick_false, cond_and, run_add_int, run_sub_int, run_mul_int, run_fdiv_int, run_mod_int, run_pow_int, run_neg_int, run_idx_tup, run_idx_lst, run_lt_int, run_le_int, run_eq_int, run_tup, run_lstV, run_len_lst, run_len_tup, run_abs_int, run_int_int, run_list_lst, run_list_tup, run_tuple_lst, run_tuple_tup, run_slc_lst, run_slc_tup, run_slc_rol, run_max2, run_min2, run_isN, Option.toList,  run_if, run_ret, run_bind, run_fz, run_var, run_mov, run_has, run_bor, run_put, run_opt, run_callP, run_callIO, run_not, run_mB, look_some, opt_some, optP_some, optIO_some, atI_0, atI_1, atI_2, atI_3, atI_4, ds_of, flat_lst, fz_lst, fz_d, flat_d, lstOf_lst, own_lst, ev, evs, IR.pv, valOf, ev1, ev2, ev2T, chnM, iteM, slcM, endOf, seqD, vBin, vCmp, andV, orV, andT, orT, vTru, putTg, putTgs, IE.isNop, fin, finIO, slot0, startE, List.length_cons, List.length_nil, List.length_set, List.map_cons, List.map_nil, List.cons_append, List.nil_append, List.append_nil, List.getElem?_cons_zero, List.getElem?_cons_succ, List.set_cons_zero, List.set_cons_succ, List.replicate, fzs_d, OV.ds, OV.flat, OV.fz, OV.fzs, lstOf, Option.map_some, Bool.decide_eq_true, if_true, if_false, Bool.false_eq_true, Bool.not_true, Bool.not_false, decide_true, decide_false, wipeE, backE, hideL, stoF_0, stoF_1, stoF_2, stoF_3, stoF_4, finX, finP, sl_0, sl_1, sl_2, sl_3, sl_4, sl_5, sl_6, sl_7, sl_8, sl_9, sl_10, sl_11, sl_12, sl_13, sl_14, sl_15, sl_16, sl_17, sl_18, sl_19, sl_20, sl_21, sl_22, sl_23, sl_24, sl_25, sl_26, sl_27, sl_28, sl_29, sl_30, sl_31, sl_32, true_and, and_true, Nat.sub_self, Nat.reduceAdd, Nat.reduceSub, Nat.reduceLT, Nat.reduceLeDiff, Nat.zero_lt_succ, Nat.zero_le]
        exact k1 _ (half _ _ _ (p + 1) sc[p.toNat] s (by omega) (by omega) hs hs2)
      · simp -implicitDefEqProofs only [↓run_cons, ↓run_nil, ↓run_asg, ↓run_set, ↓run_par, ↓run_exp, ↓run_retS, ↓run_retN, ↓run_pass, ↓run_brk, ↓run_cnt, ↓run_iff, ↓run_sto, ↓run_lop, ↓run_ret, ↓run_bind, ↓run_fz, ↓run_stuck, ↓run_var, ↓run_mov, ↓run_has, ↓run_bor, ↓run_put, ↓run_opt, ↓run_callP, ↓run_callIO, ↓run_not, ↓run_mB, ↓look_some, ↓opt_some, ↓optP_some, ↓optIO_some, ↓flow_next, ↓flow_brk, ↓flow_cnt, ↓flow_ret, ↓pick_true, ↓pick_false, cond_and, run_add_int, run_sub_int, run_mul_int, run_fdiv_int, run_mod_int, run_pow_int, run_neg_int, run_idx_tup, run_idx_lst, run_lt_int, run_le_int, run_eq_int, run_tup, run_lstV, run_len_lst, run_len_tup, run_abs_int, run_int_int, run_list_lst, run_list_tup, run_tuple_lst, run_tuple_tup, run_slc_lst, run_slc_tup, run_slc_rol, run_max2, run_min2, run_isN, Option.toList,  run_if, run_ret, run_bind, run_fz, run_var, run_mov, run_has, run_bor, run_put, run_opt, run_callP, run_callIO, run_not, run_mB, look_some, opt_some, optP_some, optIO_some, atI_0, atI_1, atI_2, atI_3, atI_4, ds_of, flat_lst, fz_lst, fz_d, flat_d, lstOf_lst, own_lst, ev, evs, IR.pv, valOf, ev1, ev2, ev2T, chnM, iteM, slcM, endOf, seqD, vBin, vCmp, andV, orV, andT, orT, vTru, putTg, putTgs, IE.isNop, fin, finIO, slot0, startE, List.length_cons, List.length_nil, List.length_set, List.map_cons, List.map_nil, List.cons_append, List.nil_append, List.append_nil, List.getElem?_cons_zero, List.getElem?_cons_succ, List.set_cons_zero, List.set_cons_succ, List.replicate, fzs_d, OV.ds, OV.flat, OV.fz, OV.fzs, lstOf, Option.map_some, Bool.decide_eq_true, if_true, if_false, Bool.false_eq_true, Bool.not_true, Bool.not_false, decide_true, decide_false, wipeE, backE, hideL, stoF_0, stoF_1, stoF_2, stoF_3, stoF_4, finX, finP, sl_0, sl_1, sl_2, sl_3, sl_4, sl_5, sl_6, sl_7, sl_8, sl_9, sl_10, sl_11, sl_12, sl_13, sl_14, sl_15, sl_16, sl_17, sl_18, sl_19, sl_20, sl_21, sl_22, sl_23, sl_24, sl_25, sl_26, sl_27, sl_28, sl_29, sl_30, sl_31, sl_32, true_and, and_true, Nat.sub_self, Nat.reduceAdd, Nat.reduceSub, Nat.reduceLT, Nat.reduceLeDiff, Nat.zero_lt_succ, Nat.zero_le]
        refine ⟨mulOk_sz (z31.of_lt hs hs2) z16b (by decide), by decide, mulOk_sz (z31b.mod (by decide)) z16c (by decide), by decide, l1 _ ?_⟩
        simp -implicitDefEqProofs only [↓run_cons, ↓run_nil, ↓run_asg, ↓run_set, ↓run_par, ↓run_exp, ↓run_retS, ↓run_retN, ↓run_pass, ↓run_brk, ↓run_cnt, ↓run_iff, ↓run_sto, ↓run_lop, ↓run_ret, ↓run_bind, ↓run_fz, ↓run_stuck, ↓run_var, ↓run_mov, ↓run_has, ↓run_bor, ↓run_put, ↓run_opt, ↓run_callP, ↓run_callIO, ↓run_not, ↓run_mB, ↓look_some, ↓opt_some, ↓optP_some, ↓optIO_some, ↓flow_next, ↓flow_brk, ↓flow_cnt, ↓flow_ret, ↓pick_true, ↓pick_false, cond_and, run_add_int, run_sub_int, run_mul_int, run_fdiv_int, run_mod_int, run_pow_int, run_neg_int, run_idx_tup, run_idx_lst, run_lt_int, run_le_int, run_eq_int, run_tup, run_lstV, run_len_lst, run_len_tup, run_abs_int, run_int_int, run_list_lst, run_list_tup, run_tuple_lst, run_tuple_tup, run_slc_lst, run_slc_tup, run_slc_rol, run_max2, run_min2, run_isN, Option.toList,  run_if, run_ret, run_bind, run_fz, run_var, run_mov, run_has, run_bor, run_put, run_opt, run_callP, run_callIO, run_not, run_mB, look_some, opt_some, optP_some, optIO_some, atI_0, atI_1, atI_2, atI_3, atI_4, ds_of, flat_lst, fz_lst, fz_d, flat_d, lstOf_lst, own_lst, ev, evs, IR.pv, valOf, ev1, ev2, ev2T, chnM, iteM, slcM, endOf, seqD, vBin, vCmp, andV, orV, andT, orT, vTru, putTg, putTgs, IE.isNop, fin, finIO, slot0, startE, List.length_cons, List.length_nil, List.length_set, List.map_cons, List.map_nil, List.cons_append, List.nil_append, List.append_nil, List.getElem?_cons_zero, List.getElem?_cons_succ, List.set_cons_zero, List.set_cons_succ, List.replicate, fzs_d, OV.ds, OV.flat, OV.fz, OV.fzs, lstOf, Option.map_some, Bool.decide_eq_true, if_true, if_false, Bool.false_eq_true, Bool.not_true, Bool.not_false, decide_true, decide_false, wipeE, backE, hideL, stoF_0, stoF_1, stoF_2, stoF_3, stoF_4, finX, finP, sl_0, sl_1, sl_2, sl_3, sl_4, sl_5, sl_6, sl_7, sl_8, sl_9, sl_10, sl_11, sl_12, sl_13, sl_14, sl_15, sl_16, sl_17, sl_18, sl_19, sl_20, sl_21, sl_22, sl_23, sl_24, sl_25, sl_26, sl_27, sl_28, sl_29, sl_30, sl_31, sl_32, true_and, and_true, Nat.sub_self, Nat.reduceAdd, Nat.reduceSub, Nat.reduceLT, Nat.reduceLeDiff, Nat.zero_lt_succ, Nat.zero_le]
        exact k1 _ (half _ _ _ (p + 1) g _ (by omega) hg (Int.emod_nonneg _ (by decide)) (Int.emod_lt_of_pos _ (by decide)))
    · simp -implicitDefEqProofs only [↓run_cons, ↓run_nil, ↓run_asg, ↓run_set, ↓run_par, ↓run_exp, ↓run_retS, ↓run_retN, ↓run_pass, ↓run_brk, ↓run_cnt, ↓run_iff, ↓run_sto, ↓run_lop, ↓run_ret, ↓run_bind, ↓run_fz, ↓run_stuck, ↓run_var, ↓run_mov, ↓run_has, ↓run_bor, ↓run_put, ↓run_opt, ↓run_callP, ↓run_callIO, ↓run_not, ↓run_mB, ↓look_some, ↓opt_some, ↓optP_some, ↓optIO_some, ↓flow_next, ↓flow_brk, ↓flow_cnt, ↓flow_ret, ↓pick_true, ↓pick_false, cond_and, run_add_int, run_sub_int, run_mul_int, run_fdiv_int, run_mod_int, run_pow_int, run_neg_int, run_idx_tup, run_idx_lst, run_lt_int, run_le_int, run_eq_int, run_tup, run_lstV, run_len_lst, run_len_tup, run_abs_int, run_int_int, run_list_lst, run_list_tup, run_tuple_lst, run_tuple_tup, run_slc_lst, run_slc_tup, run_slc_rol, run_max2, run_min2, run_isN, Option.toList,  run_if, run_ret, run_bind, run_fz, run_var, run_mov, run_has, run_bor, run_put, run_opt, run_callP, run_callIO, run_not, run_mB, look_some, opt_some, optP_some, optIO_some, atI_0, atI_1, atI_2, atI_3, atI_4, ds_of, flat_lst, fz_lst, fz_d, flat_d, lstOf_lst, own_lst, ev, evs, IR.pv, valOf, ev1, ev2, ev2T, chnM, iteM, slcM, endOf, seqD, vBin, vCmp, andV, orV, andT, orT, vTru, putTg, putTgs, IE.isNop, fin, finIO, slot0, startE, List.length_cons, List.length_nil, List.length_set, List.map_cons, List.map_nil, List.cons_append, List.nil_append, List.append_nil, List.getElem?_cons_zero, List.getElem?_cons_succ, List.set_cons_zero, List.set_cons_succ, List.replicate, fzs_d, OV.ds, OV.flat, OV.fz, OV.fzs, lstOf, Option.map_some, Bool.decide_eq_true, if_true, if_false, Bool.false_eq_true, Bool.not_true, Bool.not_false, decide_true, decide_false, wipeE, backE, hideL, stoF_0, stoF_1, stoF_2, stoF_3, stoF_4, finX, finP, sl_0, sl_1, sl_2, sl_3, sl_4, sl_5, sl_6, sl_7, sl_8, sl_9, sl_10, sl_11, sl_12, sl_13, sl_14, sl_15, sl_16, sl_17, sl_18, sl_19, sl_20, sl_21, sl_22, sl_23, sl_24, sl_25, sl_26, sl_27, sl_28, sl_29, sl_30, sl_31, sl_32, true_and, and_true, Nat.sub_self, Nat.reduceAdd, Nat.reduceSub, Nat.reduceLT, Nat.reduceLeDiff, Nat.zero_lt_succ, Nat.zero_le]
      exact k1 _ (half _ _ _ p g s hp hg hs hs2)
  · simp -implicitDefEqProofs only [↓run_cons, ↓run_nil, ↓run_asg, ↓run_set, ↓run_par, ↓run_exp, ↓run_retS, ↓run_retN, ↓run_pass, ↓run_brk, ↓run_cnt, ↓run_iff, ↓run_sto, ↓run_lop, ↓run_ret, ↓run_bind, ↓run_fz, ↓run_stuck, ↓run_var, ↓run_mov, ↓run_has, ↓run_bor, ↓run_put, ↓run_opt, ↓run_callP, ↓run_callIO, ↓run_not, ↓run_mB, ↓look_some, ↓opt_some, ↓optP_some, ↓optIO_some, ↓flow_next, ↓flow_brk, ↓flow_cnt, ↓flow_ret, ↓pick_true, ↓pick_false, cond_and, run_add_int, run_sub_int, run_mul_int, run_fdiv_int, run_mod_int, run_pow_int, run_neg_int, run_idx_tup, run_idx_lst, run_lt_int, run_le_int, run_eq_int, run_tup, run_lstV, run_len_lst, run_len_tup, run_abs_int, run_int_int, run_list_lst, run_list_tup, run_tuple_lst, run_tuple_tup, run_slc_lst, run_slc_tup, run_slc_rol, run_max2, run_min2, run_isN, Option.toList,  run_if, run_ret, run_bind, run_fz, run_var, run_mov, run_has, run_bor, run_put, run_opt, run_callP, run_callIO, run_not, run_mB, look_some, opt_some, optP_some, optIO_some, atI_0, atI_1, atI_2, atI_3, atI_4, ds_of, flat_lst, fz_lst, fz_d, flat_d, lstOf_lst, own_lst, ev, evs, IR.pv, valOf, ev1, ev2, ev2T, chnM, iteM, slcM, endOf, seqD, vBin, vCmp, andV, orV, andT, orT, vTru, putTg, putTgs, IE.isNop, fin, finIO, slot0, startE, List.length_cons, List.length_nil, List.length_set, List.map_cons, List.map_nil, List.cons_append, List.nil_append, List.append_nil, List.getElem?_cons_zero, List.getElem?_cons_succ, List.set_cons_zero, List.set_cons_succ, List.replicate, fzs_d, OV.ds, OV.flat, OV.fz, OV.fzs, lstOf, Option.map_some, Bool.decide_eq_true, if_true, if_false, Bool.false_eq_true, Bool.not_true, Bool.not_false, decide_true, decide_false, wipeE, backE, hideL, stoF_0, stoF_1, stoF_2, stoF_3, stoF_4, finX, finP, sl_0, sl_1, sl_2, sl_3, sl_4, sl_5, sl_6, sl_7, sl_8, sl_9, sl_10, sl_11, sl_12, sl_13, sl_14, sl_15, sl_16, sl_17, sl_18, sl_19, sl_20, sl_21, sl_22, sl_23, sl_24, sl_25, sl_26, sl_27, sl_28, sl_29, sl_30, sl_31, sl_32, true_and, and_true, Nat.sub_self, Nat.reduceAdd, Nat.reduceSub, Nat.reduceLT, Nat.reduceLeDiff, Nat.zero_lt_succ, Nat.zero_le]
    exact k1 _ (half _ _ _ p g s hp hg hs hs2)
end
end IR
end
section
set_option Elab.async false
set_option linter.all false
set_option maxRecDepth 100000
set_option maxHeartbeats 8000000
/-! ILaw2: the cells, one of several, a place, likeness. -/
namespace IR
open PySem PySem.Spec L2
def bCells : List IS := [(.set 1 (.cst (.int 3839))), (.fr .seq [(.slc (.var 0) .nop (.cst (.int 63)))] (.v 2) [(.set 1 (.bin .mod (.blt .int (.bin .add (.bin .add (.bin .mul (.var 1) (.cst (.int 48271))) (.bin .mod (.blt .int (.var 2)) (.cst (.int 2147483543)))) (.cst (.int 17)))) (.cst (.int 2147483629))))]), (.ret (.lst [(.blt .list (.slc (.var 0) .nop (.cst (.int 63)))), (.cst (.int 0)), (.cst (.int 0)), (.var 1), (.cst (.int 0))]))]
def bAny (f : Nat) : List IS := [(.ret (.idx (.var 1) (.cio f 0 [(.blt .len (.var 1))] [])))]
def bSpot (f : Nat) : List IS := [(.set 2 (.bin .sub (.cio f 0 [(.bin .add (.bin .mul (.cst (.int 2)) (.var 1)) (.cst (.int 1)))] []) (.var 1))), (.ret (.tup [(.var 2), (.bin .sub (.cio f 0 [(.bin .add (.bin .mul (.cst (.int 2)) (.var 1)) (.cst (.int 1)))] []) (.var 1))]))]
def bLike (f : Nat) : List IS := [(.iff (.isi (.var 1) [.list, .tuple]) [(.iff (.or [(.cmp .ne (.isi (.var 0) [.list]) (.isi (.var 1) [.list])), (.cmp .ne (.isi (.var 0) [.tuple]) (.isi (.var 1) [.tuple]))]) [(.ret (.cst (.bl false)))] []), (.ret (.and [(.cmp .eq (.blt .len (.var 0)) (.blt .len (.var 1))), (.blt .all (.cpr .zip [(.var 0), (.var 1)] [2, 3] (.u [(.v 2), (.v 3)]) (.cal f [(.var 2), (.var 3)] []) .nop))]))] []), (.iff (.or [(.cmp .isN (.var 1) (.cst .non)), (.cmp .isN (.var 0) (.cst .non))]) [(.ret (.and [(.cmp .isN (.var 1) (.cst .non)), (.cmp .isN (.var 0) (.cst .non))]))] []), (.iff (.or [(.cmp .ne (.isi (.var 1) [.bool]) (.isi (.var 0) [.bool])), (.cmp .ne (.isi (.var 1) [.int]) (.isi (.var 0) [.int]))]) [(.ret (.cst (.bl false)))] []), (.ret (.and [(.cmp .eq (.isi (.var 1) [.str]) (.isi (.var 0) [.str])), (.cmp .eq (.var 0) (.var 1))]))]
theorem sl63 : (63 : Nat) ≤ sizeLine := by decide
theorem z4000 : Sz 2 2 := by unfold Sz; decide
section
variable {x : D} {P : Nat → Option Def} {C : Nat → Option D} {N k f fd : Nat}
theorem cells_ex (hd : P f = some ⟨1, false, 3, bCells⟩) (ns : List Int) : ∃ r, PG P C N (k + 1) f none [.rol (ns.map .int)] = some (.ok r, none) ∧ Bag r 0 := by
  refine ecall_Px (d := ⟨1, false, 3, bCells⟩) hd rfl ?_
  have fin1 : ∀ (s : Int) (ρ : En), 0 ≤ s → s < 2147483629 → finP (fun r => Bag r 0) (.ret (bagV (cutL ns none (some 63)) 0 0 s 0)) ρ := fun s ρ h1 h2 => ⟨_, _, _, _, _, rfl, by decide, by decide, h1, h2, by decide, by decide⟩
  generalize finP (fun r => Bag r 0) = R at fin1 ⊢
  unfold bCells
  refine seq_run fun K k1 k2 => ?_
  simp -implicitDefEqProofs only [↓run_cons, ↓run_nil, ↓run_asg, ↓run_set, ↓run_par, ↓run_exp, ↓run_retS, ↓run_retN, ↓run_pass, ↓run_brk, ↓run_cnt, ↓run_iff, ↓run_sto, ↓run_lop, ↓run_ret, ↓run_bind, ↓run_fz, ↓run_stuck, ↓run_var, ↓run_mov, ↓run_has, ↓run_bor, ↓run_put, ↓run_opt, ↓run_callP, ↓run_callIO, ↓run_not, ↓run_mB, ↓look_some, ↓opt_some, ↓optP_some, ↓optIO_some, ↓flow_next, ↓flow_brk, ↓flow_cnt, ↓flow_ret, ↓pick_true, ↓pick_false, cond_and, run_add_int, run_sub_int, run_mul_int, run_fdiv_int, run_mod_int, run_pow_int, run_neg_int, run_idx_tup, run_idx_lst, run_lt_int, run_le_int, run_eq_int, run_tup, run_lstV, run_len_lst, run_len_tup, run_abs_int, run_int_int, run_list_lst, run_list_tup, run_tuple_lst, run_tuple_tup, run_slc_lst, run_slc_tup, run_slc_rol, run_max2, run_min2, run_isN, Option.toList,  run_if, run_ret, run_bind, run_fz, run_var, run_mov, run_has, run_bor, run_put, run_opt, run_callP, run_callIO, run_not, run_mB, look_some, opt_some, optP_some, optIO_some, atI_0, atI_1, atI_2, atI_3, atI_4, ds_of, flat_lst, fz_lst, fz_d, flat_d, lstOf_lst, own_lst, ev, evs, IR.pv, valOf, ev1, ev2, ev2T, chnM, iteM, slcM, endOf, seqD, vBin, vCmp, andV, orV, andT, orT, vTru, putTg, putTgs, IE.isNop, fin, finIO, slot0, startE, List.length_cons, List.length_nil, List.length_set, List.map_cons, List.map_nil, List.cons_append, List.nil_append, List.append_nil, List.getElem?_cons_zero, List.getElem?_cons_succ, List.set_cons_zero, List.set_cons_succ, List.replicate, fzs_d, OV.ds, OV.flat, OV.fz, OV.fzs, lstOf, Option.map_some, Bool.decide_eq_true, if_true, if_false, Bool.false_eq_true, Bool.not_true, Bool.not_false, decide_true, decide_false, wipeE, backE, hideL, stoF_0, stoF_1, stoF_2, stoF_3, stoF_4, finX, finP, sl_0, sl_1, sl_2, sl_3, sl_4, sl_5, sl_6, sl_7, sl_8, sl_9, sl_10, sl_11, sl_12, sl_13, sl_14, sl_15, sl_16, sl_17, sl_18, sl_19, sl_20, sl_21, sl_22, sl_23, sl_24, sl_25, sl_26, sl_27, sl_28, sl_29, sl_30, sl_31, sl_32, true_and, and_true, Nat.sub_self, Nat.reduceAdd, Nat.reduceSub, Nat.reduceLT, Nat.reduceLeDiff, Nat.zero_lt_succ, Nat.zero_le]
  refine k1 _ ?_
  clear k1 k2
  refine seq_run fun K k1 k2 => ?_
  clear k2
  rw [run_fr rfl]
  simp -implicitDefEqProofs only [↓run_cons, ↓run_nil, ↓run_asg, ↓run_set, ↓run_par, ↓run_exp, ↓run_retS, ↓run_retN, ↓run_pass, ↓run_brk, ↓run_cnt, ↓run_iff, ↓run_sto, ↓run_lop, ↓run_ret, ↓run_bind, ↓run_fz, ↓run_stuck, ↓run_var, ↓run_mov, ↓run_has, ↓run_bor, ↓run_put, ↓run_opt, ↓run_callP, ↓run_callIO, ↓run_not, ↓run_mB, ↓look_some, ↓opt_some, ↓optP_some, ↓optIO_some, ↓flow_next, ↓flow_brk, ↓flow_cnt, ↓flow_ret, ↓pick_true, ↓pick_false, cond_and, run_add_int, run_sub_int, run_mul_int, run_fdiv_int, run_mod_int, run_pow_int, run_neg_int, run_idx_tup, run_idx_lst, run_lt_int, run_le_int, run_eq_int, run_tup, run_lstV, run_len_lst, run_len_tup, run_abs_int, run_int_int, run_list_lst, run_list_tup, run_tuple_lst, run_tuple_tup, run_slc_lst, run_slc_tup, run_slc_rol, run_max2, run_min2, run_isN, Option.toList,  run_if, run_ret, run_bind, run_fz, run_var, run_mov, run_has, run_bor, run_put, run_opt, run_callP, run_callIO, run_not, run_mB, look_some, opt_some, optP_some, optIO_some, atI_0, atI_1, atI_2, atI_3, atI_4, ds_of, flat_lst, fz_lst, fz_d, flat_d, lstOf_lst, own_lst, ev, evs, IR.pv, valOf, ev1, ev2, ev2T, chnM, iteM, slcM, endOf, seqD, vBin, vCmp, andV, orV, andT, orT, vTru, putTg, putTgs, IE.isNop, fin, finIO, slot0, startE, List.length_cons, List.length_nil, List.length_set, List.map_cons, List.map_nil, List.cons_append, List.nil_append, List.append_nil, List.getElem?_cons_zero, List.getElem?_cons_succ, List.set_cons_zero, List.set_cons_succ, List.replicate, fzs_d, OV.ds, OV.flat, OV.fz, OV.fzs, lstOf, Option.map_some, Bool.decide_eq_true, if_true, if_false, Bool.false_eq_true, Bool.not_true, Bool.not_false, decide_true, decide_false, wipeE, backE, hideL, stoF_0, stoF_1, stoF_2, stoF_3, stoF_4, finX, finP, sl_0, sl_1, sl_2, sl_3, sl_4, sl_5, sl_6, sl_7, sl_8, sl_9, sl_10, sl_11, sl_12, sl_13, sl_14, sl_15, sl_16, sl_17, sl_18, sl_19, sl_20, sl_21, sl_22, sl_23, sl_24, sl_25, sl_26, sl_27, sl_28, sl_29, sl_30, sl_31, sl_32, true_and, and_true, Nat.sub_self, Nat.reduceAdd, Nat.reduceSub, Nat.reduceLT, Nat.reduceLeDiff, Nat.zero_lt_succ, Nat.zero_le, srcM, D.items, run_slc_rol, mOpt]
  rw [cutL_map]
  refine run_forM (I := fun _ ρ => ∃ (s : Int) (x : Option OV), 0 ≤ s ∧ s < 2147483629 ∧ ρ = [some (.d (.rol (ns.map .int))), some (.d (.int s)), x]) (fun i x ρ hx ⟨s, y, h1, h2, e⟩ => ?_) (fun ρ ⟨s, y, h1, h2, e⟩ => ?_) ⟨3839, none, by decide, by decide, rfl⟩
  · subst e
    obtain ⟨n, rfl⟩ : ∃ n, x = .int n := by
      rw [List.getElem?_map] at hx
      cases h : (cutL ns none (some 63))[i]? with
      | none => rw [h] at hx; cases hx
      | some n => rw [h] at hx; cases hx; exact ⟨n, rfl⟩
    simp -implicitDefEqProofs only [↓run_cons, ↓run_nil, ↓run_asg, ↓run_set, ↓run_par, ↓run_exp, ↓run_retS, ↓run_retN, ↓run_pass, ↓run_brk, ↓run_cnt, ↓run_iff, ↓run_sto, ↓run_lop, ↓run_ret, ↓run_bind, ↓run_fz, ↓run_stuck, ↓run_var, ↓run_mov, ↓run_has, ↓run_bor, ↓run_put, ↓run_opt, ↓run_callP, ↓run_callIO, ↓run_not, ↓run_mB, ↓look_some, ↓opt_some, ↓optP_some, ↓optIO_some, ↓flow_next, ↓flow_brk, ↓flow_cnt, ↓flow_ret, ↓pick_true, ↓pick_false, cond_and, run_add_int, run_sub_int, run_mul_int, run_fdiv_int, run_mod_int, run_pow_int, run_neg_int, run_idx_tup, run_idx_lst, run_lt_int, run_le_int, run_eq_int, run_tup, run_lstV, run_len_lst, run_len_tup, run_abs_int, run_int_int, run_list_lst, run_list_tup, run_tuple_lst, run_tuple_tup, run_slc_lst, run_slc_tup, run_slc_rol, run_max2, run_min2, run_isN, Option.toList,  run_if, run_ret, run_bind, run_fz, run_var, run_mov, run_has, run_bor, run_put, run_opt, run_callP, run_callIO, run_not, run_mB, look_some, opt_some, optP_some, optIO_some, atI_0, atI_1, atI_2, atI_3, atI_4, ds_of, flat_lst, fz_lst, fz_d, flat_d, lstOf_lst, own_lst, ev, evs, IR.pv, valOf, ev1, ev2, ev2T, chnM, iteM, slcM, endOf, seqD, vBin, vCmp, andV, orV, andT, orT, vTru, putTg, putTgs, IE.isNop, fin, finIO, slot0, startE, List.length_cons, List.length_nil, List.length_set, List.map_cons, List.map_nil, List.cons_append, List.nil_append, List.append_nil, List.getElem?_cons_zero, List.getElem?_cons_succ, List.set_cons_zero, List.set_cons_succ, List.replicate, fzs_d, OV.ds, OV.flat, OV.fz, OV.fzs, lstOf, Option.map_some, Bool.decide_eq_true, if_true, if_false, Bool.false_eq_true, Bool.not_true, Bool.not_false, decide_true, decide_false, wipeE, backE, hideL, stoF_0, stoF_1, stoF_2, stoF_3, stoF_4, finX, finP, sl_0, sl_1, sl_2, sl_3, sl_4, sl_5, sl_6, sl_7, sl_8, sl_9, sl_10, sl_11, sl_12, sl_13, sl_14, sl_15, sl_16, sl_17, sl_18, sl_19, sl_20, sl_21, sl_22, sl_23, sl_24, sl_25, sl_26, sl_27, sl_28, sl_29, sl_30, sl_31, sl_32, true_and, and_true, Nat.sub_self, Nat.reduceAdd, Nat.reduceSub, Nat.reduceLT, Nat.reduceLeDiff, Nat.zero_lt_succ, Nat.zero_le, run_int_int]
    refine ⟨mulOk_sz (z31.of_lt h1 h2) z16 (by decide), by decide, by decide, _, _, Int.emod_nonneg _ (by decide), Int.emod_lt_of_pos _ (by decide), rfl⟩
  · subst e
    refine k1 _ ?_
    simp -implicitDefEqProofs only [↓run_cons, ↓run_nil, ↓run_asg, ↓run_set, ↓run_par, ↓run_exp, ↓run_retS, ↓run_retN, ↓run_pass, ↓run_brk, ↓run_cnt, ↓run_iff, ↓run_sto, ↓run_lop, ↓run_ret, ↓run_bind, ↓run_fz, ↓run_stuck, ↓run_var, ↓run_mov, ↓run_has, ↓run_bor, ↓run_put, ↓run_opt, ↓run_callP, ↓run_callIO, ↓run_not, ↓run_mB, ↓look_some, ↓opt_some, ↓optP_some, ↓optIO_some, ↓flow_next, ↓flow_brk, ↓flow_cnt, ↓flow_ret, ↓pick_true, ↓pick_false, cond_and, run_add_int, run_sub_int, run_mul_int, run_fdiv_int, run_mod_int, run_pow_int, run_neg_int, run_idx_tup, run_idx_lst, run_lt_int, run_le_int, run_eq_int, run_tup, run_lstV, run_len_lst, run_len_tup, run_abs_int, run_int_int, run_list_lst, run_list_tup, run_tuple_lst, run_tuple_tup, run_slc_lst, run_slc_tup, run_slc_rol, run_max2, run_min2, run_isN, Option.toList,  run_if, run_ret, run_bind, run_fz, run_var, run_mov, run_has, run_bor, run_put, run_opt, run_callP, run_callIO, run_not, run_mB, look_some, opt_some, optP_some, optIO_some, atI_0, atI_1, atI_2, atI_3, atI_4, ds_of, flat_lst, fz_lst, fz_d, flat_d, lstOf_lst, own_lst, ev, evs, IR.pv, valOf, ev1, ev2, ev2T, chnM, iteM, slcM, endOf, seqD, vBin, vCmp, andV, orV, andT, orT, vTru, putTg, putTgs, IE.isNop, fin, finIO, slot0, startE, List.length_cons, List.length_nil, List.length_set, List.map_cons, List.map_nil, List.cons_append, List.nil_append, List.append_nil, List.getElem?_cons_zero, List.getElem?_cons_succ, List.set_cons_zero, List.set_cons_succ, List.replicate, fzs_d, OV.ds, OV.flat, OV.fz, OV.fzs, lstOf, Option.map_some, Bool.decide_eq_true, if_true, if_false, Bool.false_eq_true, Bool.not_true, Bool.not_false, decide_true, decide_false, wipeE, backE, hideL, stoF_0, stoF_1, stoF_2, stoF_3, stoF_4, finX, finP, sl_0, sl_1, sl_2, sl_3, sl_4, sl_5, sl_6, sl_7, sl_8, sl_9, sl_10, sl_11, sl_12, sl_13, sl_14, sl_15, sl_16, sl_17, sl_18, sl_19, sl_20, sl_21, sl_22, sl_23, sl_24, sl_25, sl_26, sl_27, sl_28, sl_29, sl_30, sl_31, sl_32, true_and, and_true, Nat.sub_self, Nat.reduceAdd, Nat.reduceSub, Nat.reduceLT, Nat.reduceLeDiff, Nat.zero_lt_succ, Nat.zero_le, run_slc_rol, run_list_lst, cutL_map]
    exact fin1 s _ h1 h2
def AnyQ (xs : List D) (n : Nat) (r b' : OV) : Prop := ∃ x, x ∈ xs ∧ r = OV.d x ∧ Bag b' (n + 1)
theorem nat_log {n : Nat} (h : n ≤ 1000000) : ((n : Int)).natAbs.log2 < 9000 := Nat.lt_of_le_of_lt (Sz.log (n := 20) (by
  have e : (2 : Nat) ^ 20 = 1048576 := by decide
  unfold Sz
  rw [e]
  omega)) (by decide)
theorem any_ex (hd : P f = some ⟨2, true, 2, bAny fd⟩) (hdd : P fd = some ⟨2, true, 5, bDraw⟩) {b : OV} {n : Nat} {xs : List D} (hb : Bag b n) (hn : n < 1000000000) (h0 : xs ≠ []) (hl : xs.length ≤ 1000000) :
    ∃ r b', PG P C N (k + 2) f (some b) [.lst xs] = some (.ok r, some b') ∧ AnyQ xs n r b' := by
  have hpos : 0 < xs.length := List.length_pos_iff.mpr h0
  obtain ⟨r, b', e, d, rfl, hb', h1, h2⟩ := draw_ex (C := C) (N := N) (k := k) hdd hb hn (show (0 : Int) < (xs.length : Int) by omega) (nat_log hl)
  refine ecall_IOx (d := ⟨2, true, 2, bAny fd⟩) hd rfl ?_
  unfold bAny
  have ho : b.own = true := by
    obtain ⟨_, _, _, _, _, rfl, _⟩ := hb.ex
    rfl
  have hx : L2.atI xs d = some xs[d.toNat] := by
    rw [atI_pos h1, List.getElem?_eq_getElem]
  simp -implicitDefEqProofs only [↓run_cons, ↓run_nil, ↓run_asg, ↓run_set, ↓run_par, ↓run_exp, ↓run_retS, ↓run_retN, ↓run_pass, ↓run_brk, ↓run_cnt, ↓run_iff, ↓run_sto, ↓run_lop, ↓run_ret, ↓run_bind, ↓run_fz, ↓run_stuck, ↓run_var, ↓run_mov, ↓run_has, ↓run_bor, ↓run_put, ↓run_opt, ↓run_callP, ↓run_callIO, ↓run_not, ↓run_mB, ↓look_some, ↓opt_some, ↓optP_some, ↓optIO_some, ↓flow_next, ↓flow_brk, ↓flow_cnt, ↓flow_ret, ↓pick_true, ↓pick_false, cond_and, run_add_int, run_sub_int, run_mul_int, run_fdiv_int, run_mod_int, run_pow_int, run_neg_int, run_idx_tup, run_idx_lst, run_lt_int, run_le_int, run_eq_int, run_tup, run_lstV, run_len_lst, run_len_tup, run_abs_int, run_int_int, run_list_lst, run_list_tup, run_tuple_lst, run_tuple_tup, run_slc_lst, run_slc_tup, run_slc_rol, run_max2, run_min2, run_isN, Option.toList,  run_if, run_ret, run_bind, run_fz, run_var, run_mov, run_has, run_bor, run_put, run_opt, run_callP, run_callIO, run_not, run_mB, look_some, opt_some, optP_some, optIO_some, atI_0, atI_1, atI_2, atI_3, atI_4, ds_of, flat_lst, fz_lst, fz_d, flat_d, lstOf_lst, own_lst, ev, evs, IR.pv, valOf, ev1, ev2, ev2T, chnM, iteM, slcM, endOf, seqD, vBin, vCmp, andV, orV, andT, orT, vTru, putTg, putTgs, IE.isNop, fin, finIO, slot0, startE, List.length_cons, List.length_nil, List.length_set, List.map_cons, List.map_nil, List.cons_append, List.nil_append, List.append_nil, List.getElem?_cons_zero, List.getElem?_cons_succ, List.set_cons_zero, List.set_cons_succ, List.replicate, fzs_d, OV.ds, OV.flat, OV.fz, OV.fzs, lstOf, Option.map_some, Bool.decide_eq_true, if_true, if_false, Bool.false_eq_true, Bool.not_true, Bool.not_false, decide_true, decide_false, wipeE, backE, hideL, stoF_0, stoF_1, stoF_2, stoF_3, stoF_4, finX, finP, sl_0, sl_1, sl_2, sl_3, sl_4, sl_5, sl_6, sl_7, sl_8, sl_9, sl_10, sl_11, sl_12, sl_13, sl_14, sl_15, sl_16, sl_17, sl_18, sl_19, sl_20, sl_21, sl_22, sl_23, sl_24, sl_25, sl_26, sl_27, sl_28, sl_29, sl_30, sl_31, sl_32, true_and, and_true, Nat.sub_self, Nat.reduceAdd, Nat.reduceSub, Nat.reduceLT, Nat.reduceLeDiff, Nat.zero_lt_succ, Nat.zero_le, run_len_lst, e, ho, hx]
  exact ⟨_, List.getElem_mem _, rfl, hb'⟩
def SpotQ (rr : Int) (n : Nat) (r b' : OV) : Prop := ∃ x y, r = OV.d (.tup [.int x, .int y]) ∧ Bag b' (n + 2) ∧ -rr ≤ x ∧ x ≤ rr ∧ -rr ≤ y ∧ y ≤ rr
theorem spot_ex (hd : P f = some ⟨2, true, 3, bSpot fd⟩) (hdd : P fd = some ⟨2, true, 5, bDraw⟩) {b : OV} {n : Nat} {rr : Int} (hb : Bag b n) (hn : n + 1 < 1000000000) (h0 : 0 ≤ rr) (hz : Sz 1000 rr) :
    ∃ r b', PG P C N (k + 2) f (some b) [.int rr] = some (.ok r, some b') ∧ SpotQ rr n r b' := by
  have hlog : (2 * rr + 1).natAbs.log2 < 9000 := Nat.lt_of_le_of_lt (Sz.log (n := 1003) (((show Sz 2 2 by unfold Sz; decide).mul hz).add (show Sz 1002 1 by unfold Sz; decide))) (by decide)
  obtain ⟨r, b1, e, d, rfl, hb1, h1, h2⟩ := draw_ex (C := C) (N := N) (k := k) hdd hb (by omega) (show (0 : Int) < 2 * rr + 1 by omega) hlog
  obtain ⟨r, b2, e2, d2, rfl, hb2, h3, h4⟩ := draw_ex (C := C) (N := N) (k := k) hdd hb1 (by omega) (show (0 : Int) < 2 * rr + 1 by omega) hlog
  refine ecall_IOx (d := ⟨2, true, 3, bSpot fd⟩) hd rfl ?_
  unfold bSpot
  have own : ∀ {b n}, Bag b n → b.own = true := fun {b n} hb => by
    obtain ⟨_, _, _, _, _, rfl, _⟩ := hb.ex
    rfl
  have hm : mulOk 2 rr = true := mulOk_sz (show Sz 2 2 by unfold Sz; decide) hz (by decide)
  simp -implicitDefEqProofs only [↓run_cons, ↓run_nil, ↓run_asg, ↓run_set, ↓run_par, ↓run_exp, ↓run_retS, ↓run_retN, ↓run_pass, ↓run_brk, ↓run_cnt, ↓run_iff, ↓run_sto, ↓run_lop, ↓run_ret, ↓run_bind, ↓run_fz, ↓run_stuck, ↓run_var, ↓run_mov, ↓run_has, ↓run_bor, ↓run_put, ↓run_opt, ↓run_callP, ↓run_callIO, ↓run_not, ↓run_mB, ↓look_some, ↓opt_some, ↓optP_some, ↓optIO_some, ↓flow_next, ↓flow_brk, ↓flow_cnt, ↓flow_ret, ↓pick_true, ↓pick_false, cond_and, run_add_int, run_sub_int, run_mul_int, run_fdiv_int, run_mod_int, run_pow_int, run_neg_int, run_idx_tup, run_idx_lst, run_lt_int, run_le_int, run_eq_int, run_tup, run_lstV, run_len_lst, run_len_tup, run_abs_int, run_int_int, run_list_lst, run_list_tup, run_tuple_lst, run_tuple_tup, run_slc_lst, run_slc_tup, run_slc_rol, run_max2, run_min2, run_isN, Option.toList,  run_if, run_ret, run_bind, run_fz, run_var, run_mov, run_has, run_bor, run_put, run_opt, run_callP, run_callIO, run_not, run_mB, look_some, opt_some, optP_some, optIO_some, atI_0, atI_1, atI_2, atI_3, atI_4, ds_of, flat_lst, fz_lst, fz_d, flat_d, lstOf_lst, own_lst, ev, evs, IR.pv, valOf, ev1, ev2, ev2T, chnM, iteM, slcM, endOf, seqD, vBin, vCmp, andV, orV, andT, orT, vTru, putTg, putTgs, IE.isNop, fin, finIO, slot0, startE, List.length_cons, List.length_nil, List.length_set, List.map_cons, List.map_nil, List.cons_append, List.nil_append, List.append_nil, List.getElem?_cons_zero, List.getElem?_cons_succ, List.set_cons_zero, List.set_cons_succ, List.replicate, fzs_d, OV.ds, OV.flat, OV.fz, OV.fzs, lstOf, Option.map_some, Bool.decide_eq_true, if_true, if_false, Bool.false_eq_true, Bool.not_true, Bool.not_false, decide_true, decide_false, wipeE, backE, hideL, stoF_0, stoF_1, stoF_2, stoF_3, stoF_4, finX, finP, sl_0, sl_1, sl_2, sl_3, sl_4, sl_5, sl_6, sl_7, sl_8, sl_9, sl_10, sl_11, sl_12, sl_13, sl_14, sl_15, sl_16, sl_17, sl_18, sl_19, sl_20, sl_21, sl_22, sl_23, sl_24, sl_25, sl_26, sl_27, sl_28, sl_29, sl_30, sl_31, sl_32, true_and, and_true, Nat.sub_self, Nat.reduceAdd, Nat.reduceSub, Nat.reduceLT, Nat.reduceLeDiff, Nat.zero_lt_succ, Nat.zero_le, hm, e, e2, own hb, own hb1]
  exact ⟨_, _, rfl, hb2, by omega, by omega, by omega, by omega⟩
theorem run_eq_self {x : D} {ρ : En} {Qb : Bool → En → Prop} {tb : Tag Qb} (hx : D.ok 60 x = true) : run (vEq x x) ρ Qb tb = Qb true ρ := by
  rw [run_eq hx hx, D.eqv_refl hx]
theorem run_eq_bl {b : Bool} {ρ : En} {Qb : Bool → En → Prop} {tb : Tag Qb} : run (vEq (.bl b) (.bl b)) ρ Qb tb = Qb true ρ := run_eq_self (by rfl)
theorem like_leaf {G : GF} (hx : D.ok 60 x = true) {b1 b2 b3 : Bool} (t0 : x.isTys [.list, .tuple] = some false) (t1 : x.isTys [.bool] = some b1) (t2 : x.isTys [.int] = some b2) (t3 : x.isTys [.str] = some b3) :
    run (evSs G C N (bLike f)) (startE 4 ([x, x].map .d)) (fin (.d (.bl true))) := by
  suffices h : ∀ R : Fl → En → Prop, (∀ ρ, R (.ret (.d (.bl true))) ρ) → run (evSs G C N (bLike f)) (startE 4 ([x, x].map .d)) R from h _ fun ρ => rfl
  intro R hR
  unfold bLike
  cases hn : x.isN
  · simp -implicitDefEqProofs only [↓run_cons, ↓run_nil, ↓run_asg, ↓run_set, ↓run_par, ↓run_exp, ↓run_retS, ↓run_retN, ↓run_pass, ↓run_brk, ↓run_cnt, ↓run_iff, ↓run_sto, ↓run_lop, ↓run_ret, ↓run_bind, ↓run_fz, ↓run_stuck, ↓run_var, ↓run_mov, ↓run_has, ↓run_bor, ↓run_put, ↓run_opt, ↓run_callP, ↓run_callIO, ↓run_not, ↓run_mB, ↓look_some, ↓opt_some, ↓optP_some, ↓optIO_some, ↓flow_next, ↓flow_brk, ↓flow_cnt, ↓flow_ret, ↓pick_true, ↓pick_false, cond_and, run_add_int, run_sub_int, run_mul_int, run_fdiv_int, run_mod_int, run_pow_int, run_neg_int, run_idx_tup, run_idx_lst, run_lt_int, run_le_int, run_eq_int, run_tup, run_lstV, run_len_lst, run_len_tup, run_abs_int, run_int_int, run_list_lst, run_list_tup, run_tuple_lst, run_tuple_tup, run_slc_lst, run_slc_tup, run_slc_rol, run_max2, run_min2, run_isN, Option.toList,  run_if, run_ret, run_bind, run_fz, run_var, run_mov, run_has, run_bor, run_put, run_opt, run_callP, run_callIO, run_not, run_mB, look_some, opt_some, optP_some, optIO_some, atI_0, atI_1, atI_2, atI_3, atI_4, ds_of, flat_lst, fz_lst, fz_d, flat_d, lstOf_lst, own_lst, ev, evs, IR.pv, valOf, ev1, ev2, ev2T, chnM, iteM, slcM, endOf, seqD, vBin, vCmp, andV, orV, andT, orT, vTru, putTg, putTgs, IE.isNop, fin, finIO, slot0, startE, List.length_cons, List.length_nil, List.length_set, List.map_cons, List.map_nil, List.cons_append, List.nil_append, List.append_nil, List.getElem?_cons_zero, List.getElem?_cons_succ, List.set_cons_zero, List.set_cons_succ, List.replicate, fzs_d, OV.ds, OV.flat, OV.fz, OV.fzs, lstOf, Option.map_some, Bool.decide_eq_true, if_true, if_false, Bool.false_eq_true, Bool.not_true, Bool.not_false, decide_true, decide_false, wipeE, backE, hideL, stoF_0, stoF_1, stoF_2, stoF_3, stoF_4, finX, finP, sl_0, sl_1, sl_2, sl_3, sl_4, sl_5, sl_6, sl_7, sl_8, sl_9, sl_10, sl_11, sl_12, sl_13, sl_14, sl_15, sl_16, sl_17, sl_18, sl_19, sl_20, sl_21, sl_22, sl_23, sl_24, sl_25, sl_26, sl_27, sl_28, sl_29, sl_30, sl_31, sl_32, true_and, and_true, Nat.sub_self, Nat.reduceAdd, Nat.reduceSub, Nat.reduceLT, Nat.reduceLeDiff, Nat.zero_lt_succ, Nat.zero_le, run_isi t0, run_isi t1, run_isi t2, run_isi t3, run_eq_bl, run_isN, run_eq_self hx, hn]
    exact hR _
  · simp -implicitDefEqProofs only [↓run_cons, ↓run_nil, ↓run_asg, ↓run_set, ↓run_par, ↓run_exp, ↓run_retS, ↓run_retN, ↓run_pass, ↓run_brk, ↓run_cnt, ↓run_iff, ↓run_sto, ↓run_lop, ↓run_ret, ↓run_bind, ↓run_fz, ↓run_stuck, ↓run_var, ↓run_mov, ↓run_has, ↓run_bor, ↓run_put, ↓run_opt, ↓run_callP, ↓run_callIO, ↓run_not, ↓run_mB, ↓look_some, ↓opt_some, ↓optP_some, ↓optIO_some, ↓flow_next, ↓flow_brk, ↓flow_cnt, ↓flow_ret, ↓pick_true, ↓pick_false, cond_and, run_add_int, run_sub_int, run_mul_int, run_fdiv_int, run_mod_int, run_pow_int, run_neg_int, run_idx_tup, run_idx_lst, run_lt_int, run_le_int, run_eq_int, run_tup, run_lstV, run_len_lst, run_len_tup, run_abs_int, run_int_int, run_list_lst, run_list_tup, run_tuple_lst, run_tuple_tup, run_slc_lst, run_slc_tup, run_slc_rol, run_max2, run_min2, run_isN, Option.toList,  run_if, run_ret, run_bind, run_fz, run_var, run_mov, run_has, run_bor, run_put, run_opt, run_callP, run_callIO, run_not, run_mB, look_some, opt_some, optP_some, optIO_some, atI_0, atI_1, atI_2, atI_3, atI_4, ds_of, flat_lst, fz_lst, fz_d, flat_d, lstOf_lst, own_lst, ev, evs, IR.pv, valOf, ev1, ev2, ev2T, chnM, iteM, slcM, endOf, seqD, vBin, vCmp, andV, orV, andT, orT, vTru, putTg, putTgs, IE.isNop, fin, finIO, slot0, startE, List.length_cons, List.length_nil, List.length_set, List.map_cons, List.map_nil, List.cons_append, List.nil_append, List.append_nil, List.getElem?_cons_zero, List.getElem?_cons_succ, List.set_cons_zero, List.set_cons_succ, List.replicate, fzs_d, OV.ds, OV.flat, OV.fz, OV.fzs, lstOf, Option.map_some, Bool.decide_eq_true, if_true, if_false, Bool.false_eq_true, Bool.not_true, Bool.not_false, decide_true, decide_false, wipeE, backE, hideL, stoF_0, stoF_1, stoF_2, stoF_3, stoF_4, finX, finP, sl_0, sl_1, sl_2, sl_3, sl_4, sl_5, sl_6, sl_7, sl_8, sl_9, sl_10, sl_11, sl_12, sl_13, sl_14, sl_15, sl_16, sl_17, sl_18, sl_19, sl_20, sl_21, sl_22, sl_23, sl_24, sl_25, sl_26, sl_27, sl_28, sl_29, sl_30, sl_31, sl_32, true_and, and_true, Nat.sub_self, Nat.reduceAdd, Nat.reduceSub, Nat.reduceLT, Nat.reduceLeDiff, Nat.zero_lt_succ, Nat.zero_le, run_isi t0, run_isi t1, run_isi t2, run_isi t3, run_eq_bl, run_isN, run_eq_self hx, hn]
    exact hR _
/-- plain data with short lists -/
def D.lik : Nat → D → Bool
  | _, .non => true
  | _, .bl _ => true
  | _, .int _ => true
  | _, .str x => PyData.strOk x
  | n + 1, .tup xs => decide (xs.length ≤ 100000) && xs.all (D.lik n)
  | n + 1, .lst xs => decide (xs.length ≤ 100000) && xs.all (D.lik n)
  | _, _ => false
theorem lik_ok : ∀ {n : Nat} {x : D}, D.lik n x = true → D.ok n x = true
  | 0, x, h => by cases x <;> simp_all [D.lik, D.ok]
  | n + 1, x, h => by
    cases x <;> simp_all [D.lik, D.ok]
    · exact fun y hy => lik_ok (h.2 y hy)
    · exact fun y hy => lik_ok (h.2 y hy)
theorem lik_ok60 {n : Nat} {x : D} (h : D.lik n x = true) (hn : n ≤ 60) : D.ok 60 x = true := D.ok_mono hn (lik_ok h)
theorem like_ok (hd : P f = some ⟨2, false, 4, bLike f⟩) : ∀ (n : Nat) (x : D) (k : Nat), n < k → n ≤ 60 → D.lik n x = true → PG P C N k f none [x, x] = some (.ok (.d (.bl true)), none) := by
  intro n
  induction n with
  | zero =>
    intro x k hk hn hx
    obtain ⟨k, rfl⟩ : ∃ j, k = j + 1 := ⟨k - 1, by omega⟩
    refine ecall_P (d := ⟨2, false, 4, bLike f⟩) hd rfl ?_
    have h60 : D.ok 60 x = true := lik_ok60 hx hn
    cases x <;> first | (simp [D.lik] at hx; done) | exact like_leaf h60 rfl rfl rfl rfl
  | succ n ih =>
    intro x k hk hn hx
    obtain ⟨k, rfl⟩ : ∃ j, k = j + 1 := ⟨k - 1, by omega⟩
    have h60 : D.ok 60 x = true := lik_ok60 hx hn
    refine ecall_P (d := ⟨2, false, 4, bLike f⟩) hd rfl ?_
    -- the items alike
    have seq : ∀ (xs : List D), (∀ y ∈ xs, D.lik n y = true) → ∀ (Q : List D → En → Prop) (z : D), (∀ m, Q (List.replicate m (.bl true)) [some (.d z), some (.d z), none, none]) → 
        run (cprLoop (cprTurn [2, 3] (.u [.v 2, .v 3]) (M.bind (M.bind (M.fz (mVar 2)) fun x => M.bind (M.bind (M.fz (mVar 3)) fun x => M.bind (M.ret []) fun xs => M.ret (x :: xs)) fun xs => M.ret (x :: xs)) fun xs => callP (PG P C N k) f xs) (M.ret true)) ((xs.zip xs).map fun p => .tup [p.1, p.2])) [some (.d z), some (.d z), none, none] Q := by
      intro xs hxs Q z hQ
      refine run_cprLoop _ (fun i acc ρ => acc = List.replicate i (.bl true) ∧ ρ = [some (.d z), some (.d z), none, none]) (fun i x acc ρ hi ⟨h1, h2⟩ => ?_) ⟨rfl, rfl⟩ (fun acc ρ ⟨h1, h2⟩ => ?_)
      · subst h2
        obtain ⟨y, hy, rfl⟩ : ∃ y ∈ xs, x = .tup [y, y] := by
          have hm := List.mem_of_getElem? hi
          obtain ⟨⟨a, b⟩, hab, rfl⟩ := List.mem_map.mp hm
          obtain ⟨j, hj⟩ := List.getElem?_of_mem hab
          rw [List.getElem?_zip_eq_some] at hj
          obtain ⟨e1, e2⟩ := hj
          have e1 : xs[j]? = some a := e1
          have e2 : xs[j]? = some b := e2
          rw [e1] at e2
          cases e2
          exact ⟨a, List.mem_of_getElem? e1, rfl⟩
        refine turn_two (by show 2 < 4; decide) (by show 3 < 4; decide) ?_
        simp -implicitDefEqProofs only [↓run_cons, ↓run_nil, ↓run_asg, ↓run_set, ↓run_par, ↓run_exp, ↓run_retS, ↓run_retN, ↓run_pass, ↓run_brk, ↓run_cnt, ↓run_iff, ↓run_sto, ↓run_lop, ↓run_ret, ↓run_bind, ↓run_fz, ↓run_stuck, ↓run_var, ↓run_mov, ↓run_has, ↓run_bor, ↓run_put, ↓run_opt, ↓run_callP, ↓run_callIO, ↓run_not, ↓run_mB, ↓look_some, ↓opt_some, ↓optP_some, ↓optIO_some, ↓flow_next, ↓flow_brk, ↓flow_cnt, ↓flow_ret, ↓pick_true, ↓pick_false, cond_and, run_add_int, run_sub_int, run_mul_int, run_fdiv_int, run_mod_int, run_pow_int, run_neg_int, run_idx_tup, run_idx_lst, run_lt_int, run_le_int, run_eq_int, run_tup, run_lstV, run_len_lst, run_len_tup, run_abs_int, run_int_int, run_list_lst, run_list_tup, run_tuple_lst, run_tuple_tup, run_slc_lst, run_slc_tup, run_slc_rol, run_max2, run_min2, run_isN, Option.toList,  run_if, run_ret, run_bind, run_fz, run_var, run_mov, run_has, run_bor, run_put, run_opt, run_callP, run_callIO, run_not, run_mB, look_some, opt_some, optP_some, optIO_some, atI_0, atI_1, atI_2, atI_3, atI_4, ds_of, flat_lst, fz_lst, fz_d, flat_d, lstOf_lst, own_lst, ev, evs, IR.pv, valOf, ev1, ev2, ev2T, chnM, iteM, slcM, endOf, seqD, vBin, vCmp, andV, orV, andT, orT, vTru, putTg, putTgs, IE.isNop, fin, finIO, slot0, startE, List.length_cons, List.length_nil, List.length_set, List.map_cons, List.map_nil, List.cons_append, List.nil_append, List.append_nil, List.getElem?_cons_zero, List.getElem?_cons_succ, List.set_cons_zero, List.set_cons_succ, List.replicate, fzs_d, OV.ds, OV.flat, OV.fz, OV.fzs, lstOf, Option.map_some, Bool.decide_eq_true, if_true, if_false, Bool.false_eq_true, Bool.not_true, Bool.not_false, decide_true, decide_false, wipeE, backE, hideL, stoF_0, stoF_1, stoF_2, stoF_3, stoF_4, finX, finP, sl_0, sl_1, sl_2, sl_3, sl_4, sl_5, sl_6, sl_7, sl_8, sl_9, sl_10, sl_11, sl_12, sl_13, sl_14, sl_15, sl_16, sl_17, sl_18, sl_19, sl_20, sl_21, sl_22, sl_23, sl_24, sl_25, sl_26, sl_27, sl_28, sl_29, sl_30, sl_31, sl_32, true_and, and_true, Nat.sub_self, Nat.reduceAdd, Nat.reduceSub, Nat.reduceLT, Nat.reduceLeDiff, Nat.zero_lt_succ, Nat.zero_le, ih y k (by omega) (by omega) (hxs y hy), wipeE, Option.toList]
        rw [h1]
        exact List.replicate_succ'.symm
      · subst h2
        subst h1
        exact hQ _
    have all : ∀ m : Nat, (List.replicate m true).all id = true := fun m => by simp
    cases x with
    | tup xs =>
      have hxs : ∀ y ∈ xs, D.lik n y = true := by have q := hx; simp only [D.lik, Bool.and_eq_true, List.all_eq_true] at q; exact q.2
      have hlen : xs.length ≤ sizeLine := by
        have q := hx
        simp only [D.lik, Bool.and_eq_true, decide_eq_true_eq] at q
        exact Nat.le_trans q.1 (by decide)
      suffices h : ∀ R : Fl → En → Prop, (∀ ρ, R (.ret (.d (.bl true))) ρ) → run (evSs (PG P C N k) C N (bLike f)) (startE 4 ([.tup xs, .tup xs].map .d)) R from h _ fun ρ => rfl
      intro R hR
      have t0 : (D.tup xs).isTys [.list, .tuple] = some true := rfl
      have t1 : (D.tup xs).isTys [.list] = some false := rfl
      have t2 : (D.tup xs).isTys [.tuple] = some true := rfl
      unfold bLike
      simp -implicitDefEqProofs only [↓run_cons, ↓run_nil, ↓run_asg, ↓run_set, ↓run_par, ↓run_exp, ↓run_retS, ↓run_retN, ↓run_pass, ↓run_brk, ↓run_cnt, ↓run_iff, ↓run_sto, ↓run_lop, ↓run_ret, ↓run_bind, ↓run_fz, ↓run_stuck, ↓run_var, ↓run_mov, ↓run_has, ↓run_bor, ↓run_put, ↓run_opt, ↓run_callP, ↓run_callIO, ↓run_not, ↓run_mB, ↓look_some, ↓opt_some, ↓optP_some, ↓optIO_some, ↓flow_next, ↓flow_brk, ↓flow_cnt, ↓flow_ret, ↓pick_true, ↓pick_false, cond_and, run_add_int, run_sub_int, run_mul_int, run_fdiv_int, run_mod_int, run_pow_int, run_neg_int, run_idx_tup, run_idx_lst, run_lt_int, run_le_int, run_eq_int, run_tup, run_lstV, run_len_lst, run_len_tup, run_abs_int, run_int_int, run_list_lst, run_list_tup, run_tuple_lst, run_tuple_tup, run_slc_lst, run_slc_tup, run_slc_rol, run_max2, run_min2, run_isN, Option.toList,  run_if, run_ret, run_bind, run_fz, run_var, run_mov, run_has, run_bor, run_put, run_opt, run_callP, run_callIO, run_not, run_mB, look_some, opt_some, optP_some, optIO_some, atI_0, atI_1, atI_2, atI_3, atI_4, ds_of, flat_lst, fz_lst, fz_d, flat_d, lstOf_lst, own_lst, ev, evs, IR.pv, valOf, ev1, ev2, ev2T, chnM, iteM, slcM, endOf, seqD, vBin, vCmp, andV, orV, andT, orT, vTru, putTg, putTgs, IE.isNop, fin, finIO, slot0, startE, List.length_cons, List.length_nil, List.length_set, List.map_cons, List.map_nil, List.cons_append, List.nil_append, List.append_nil, List.getElem?_cons_zero, List.getElem?_cons_succ, List.set_cons_zero, List.set_cons_succ, List.replicate, fzs_d, OV.ds, OV.flat, OV.fz, OV.fzs, lstOf, Option.map_some, Bool.decide_eq_true, if_true, if_false, Bool.false_eq_true, Bool.not_true, Bool.not_false, decide_true, decide_false, wipeE, backE, hideL, stoF_0, stoF_1, stoF_2, stoF_3, stoF_4, finX, finP, sl_0, sl_1, sl_2, sl_3, sl_4, sl_5, sl_6, sl_7, sl_8, sl_9, sl_10, sl_11, sl_12, sl_13, sl_14, sl_15, sl_16, sl_17, sl_18, sl_19, sl_20, sl_21, sl_22, sl_23, sl_24, sl_25, sl_26, sl_27, sl_28, sl_29, sl_30, sl_31, sl_32, true_and, and_true, Nat.sub_self, Nat.reduceAdd, Nat.reduceSub, Nat.reduceLT, Nat.reduceLeDiff, Nat.zero_lt_succ, Nat.zero_le, run_isi t0, run_isi t1, run_isi t2, run_eq_bl, run_eq_self h60, srcM, cprE, vZip]
      refine run_cpr ?_
      simp -implicitDefEqProofs only [↓run_cons, ↓run_nil, ↓run_asg, ↓run_set, ↓run_par, ↓run_exp, ↓run_retS, ↓run_retN, ↓run_pass, ↓run_brk, ↓run_cnt, ↓run_iff, ↓run_sto, ↓run_lop, ↓run_ret, ↓run_bind, ↓run_fz, ↓run_stuck, ↓run_var, ↓run_mov, ↓run_has, ↓run_bor, ↓run_put, ↓run_opt, ↓run_callP, ↓run_callIO, ↓run_not, ↓run_mB, ↓look_some, ↓opt_some, ↓optP_some, ↓optIO_some, ↓flow_next, ↓flow_brk, ↓flow_cnt, ↓flow_ret, ↓pick_true, ↓pick_false, cond_and, run_add_int, run_sub_int, run_mul_int, run_fdiv_int, run_mod_int, run_pow_int, run_neg_int, run_idx_tup, run_idx_lst, run_lt_int, run_le_int, run_eq_int, run_tup, run_lstV, run_len_lst, run_len_tup, run_abs_int, run_int_int, run_list_lst, run_list_tup, run_tuple_lst, run_tuple_tup, run_slc_lst, run_slc_tup, run_slc_rol, run_max2, run_min2, run_isN, Option.toList,  run_if, run_ret, run_bind, run_fz, run_var, run_mov, run_has, run_bor, run_put, run_opt, run_callP, run_callIO, run_not, run_mB, look_some, opt_some, optP_some, optIO_some, atI_0, atI_1, atI_2, atI_3, atI_4, ds_of, flat_lst, fz_lst, fz_d, flat_d, lstOf_lst, own_lst, ev, evs, IR.pv, valOf, ev1, ev2, ev2T, chnM, iteM, slcM, endOf, seqD, vBin, vCmp, andV, orV, andT, orT, vTru, putTg, putTgs, IE.isNop, fin, finIO, slot0, startE, List.length_cons, List.length_nil, List.length_set, List.map_cons, List.map_nil, List.cons_append, List.nil_append, List.append_nil, List.getElem?_cons_zero, List.getElem?_cons_succ, List.set_cons_zero, List.set_cons_succ, List.replicate, fzs_d, OV.ds, OV.flat, OV.fz, OV.fzs, lstOf, Option.map_some, Bool.decide_eq_true, if_true, if_false, Bool.false_eq_true, Bool.not_true, Bool.not_false, decide_true, decide_false, wipeE, backE, hideL, stoF_0, stoF_1, stoF_2, stoF_3, stoF_4, finX, finP, sl_0, sl_1, sl_2, sl_3, sl_4, sl_5, sl_6, sl_7, sl_8, sl_9, sl_10, sl_11, sl_12, sl_13, sl_14, sl_15, sl_16, sl_17, sl_18, sl_19, sl_20, sl_21, sl_22, sl_23, sl_24, sl_25, sl_26, sl_27, sl_28, sl_29, sl_30, sl_31, sl_32, true_and, and_true, Nat.sub_self, Nat.reduceAdd, Nat.reduceSub, Nat.reduceLT, Nat.reduceLeDiff, Nat.zero_lt_succ, Nat.zero_le]
      refine ⟨rfl, by simpa using hlen, rfl, ?_⟩
      refine seq xs hxs _ _ fun m => ?_
      simp -implicitDefEqProofs only [↓run_cons, ↓run_nil, ↓run_asg, ↓run_set, ↓run_par, ↓run_exp, ↓run_retS, ↓run_retN, ↓run_pass, ↓run_brk, ↓run_cnt, ↓run_iff, ↓run_sto, ↓run_lop, ↓run_ret, ↓run_bind, ↓run_fz, ↓run_stuck, ↓run_var, ↓run_mov, ↓run_has, ↓run_bor, ↓run_put, ↓run_opt, ↓run_callP, ↓run_callIO, ↓run_not, ↓run_mB, ↓look_some, ↓opt_some, ↓optP_some, ↓optIO_some, ↓flow_next, ↓flow_brk, ↓flow_cnt, ↓flow_ret, ↓pick_true, ↓pick_false, cond_and, run_add_int, run_sub_int, run_mul_int, run_fdiv_int, run_mod_int, run_pow_int, run_neg_int, run_idx_tup, run_idx_lst, run_lt_int, run_le_int, run_eq_int, run_tup, run_lstV, run_len_lst, run_len_tup, run_abs_int, run_int_int, run_list_lst, run_list_tup, run_tuple_lst, run_tuple_tup, run_slc_lst, run_slc_tup, run_slc_rol, run_max2, run_min2, run_isN, Option.toList,  run_if, run_ret, run_bind, run_fz, run_var, run_mov, run_has, run_bor, run_put, run_opt, run_callP, run_callIO, run_not, run_mB, look_some, opt_some, optP_some, optIO_some, atI_0, atI_1, atI_2, atI_3, atI_4, ds_of, flat_lst, fz_lst, fz_d, flat_d, lstOf_lst, own_lst, ev, evs, IR.pv, valOf, ev1, ev2, ev2T, chnM, iteM, slcM, endOf, seqD, vBin, vCmp, andV, orV, andT, orT, vTru, putTg, putTgs, IE.isNop, fin, finIO, slot0, startE, List.length_cons, List.length_nil, List.length_set, List.map_cons, List.map_nil, List.cons_append, List.nil_append, List.append_nil, List.getElem?_cons_zero, List.getElem?_cons_succ, List.set_cons_zero, List.set_cons_succ, List.replicate, fzs_d, OV.ds, OV.flat, OV.fz, OV.fzs, lstOf, Option.map_some, Bool.decide_eq_true, if_true, if_false, Bool.false_eq_true, Bool.not_true, Bool.not_false, decide_true, decide_false, wipeE, backE, hideL, stoF_0, stoF_1, stoF_2, stoF_3, stoF_4, finX, finP, sl_0, sl_1, sl_2, sl_3, sl_4, sl_5, sl_6, sl_7, sl_8, sl_9, sl_10, sl_11, sl_12, sl_13, sl_14, sl_15, sl_16, sl_17, sl_18, sl_19, sl_20, sl_21, sl_22, sl_23, sl_24, sl_25, sl_26, sl_27, sl_28, sl_29, sl_30, sl_31, sl_32, true_and, and_true, Nat.sub_self, Nat.reduceAdd, Nat.reduceSub, Nat.reduceLT, Nat.reduceLeDiff, Nat.zero_lt_succ, Nat.zero_le]
      rw [← List.map_replicate, run_all_bls (bls_map _), all]
      exact hR _
    | lst xs =>
      have hxs : ∀ y ∈ xs, D.lik n y = true := by have q := hx; simp only [D.lik, Bool.and_eq_true, List.all_eq_true] at q; exact q.2
      have hlen : xs.length ≤ sizeLine := by
        have q := hx
        simp only [D.lik, Bool.and_eq_true, decide_eq_true_eq] at q
        exact Nat.le_trans q.1 (by decide)
      suffices h : ∀ R : Fl → En → Prop, (∀ ρ, R (.ret (.d (.bl true))) ρ) → run (evSs (PG P C N k) C N (bLike f)) (startE 4 ([.lst xs, .lst xs].map .d)) R from h _ fun ρ => rfl
      intro R hR
      have t0 : (D.lst xs).isTys [.list, .tuple] = some true := rfl
      have t1 : (D.lst xs).isTys [.list] = some true := rfl
      have t2 : (D.lst xs).isTys [.tuple] = some false := rfl
      unfold bLike
      simp -implicitDefEqProofs only [↓run_cons, ↓run_nil, ↓run_asg, ↓run_set, ↓run_par, ↓run_exp, ↓run_retS, ↓run_retN, ↓run_pass, ↓run_brk, ↓run_cnt, ↓run_iff, ↓run_sto, ↓run_lop, ↓run_ret, ↓run_bind, ↓run_fz, ↓run_stuck, ↓run_var, ↓run_mov, ↓run_has, ↓run_bor, ↓run_put, ↓run_opt, ↓run_callP, ↓run_callIO, ↓run_not, ↓run_mB, ↓look_some, ↓opt_some, ↓optP_some, ↓optIO_some, ↓flow_next, ↓flow_brk, ↓flow_cnt, ↓flow_ret, ↓pick_true, ↓pick_false, cond_and, run_add_int, run_sub_int, run_mul_int, run_fdiv_int, run_mod_int, run_pow_int, run_neg_int, run_idx_tup, run_idx_lst, run_lt_int, run_le_int, run_eq_int, run_tup, run_lstV, run_len_lst, run_len_tup, run_abs_int, run_int_int, run_list_lst, run_list_tup, run_tuple_lst, run_tuple_tup, run_slc_lst, run_slc_tup, run_slc_rol, run_max2, run_min2, run_isN, Option.toList,  run_if, run_ret, run_bind, run_fz, run_var, run_mov, run_has, run_bor, run_put, run_opt, run_callP, run_callIO, run_not, run_mB, look_some, opt_some, optP_some, optIO_some, atI_0, atI_1, atI_2, atI_3, atI_4, ds_of, flat_lst, fz_lst, fz_d, flat_d, lstOf_lst, own_lst, ev, evs, IR.pv, valOf, ev1, ev2, ev2T, chnM, iteM, slcM, endOf, seqD, vBin, vCmp, andV, orV, andT, orT, vTru, putTg, putTgs, IE.isNop, fin, finIO, slot0, startE, List.length_cons, List.length_nil, List.length_set, List.map_cons, List.map_nil, List.cons_append, List.nil_append, List.append_nil, List.getElem?_cons_zero, List.getElem?_cons_succ, List.set_cons_zero, List.set_cons_succ, List.replicate, fzs_d, OV.ds, OV.flat, OV.fz, OV.fzs, lstOf, Option.map_some, Bool.decide_eq_true, if_true, if_false, Bool.false_eq_true, Bool.not_true, Bool.not_false, decide_true, decide_false, wipeE, backE, hideL, stoF_0, stoF_1, stoF_2, stoF_3, stoF_4, finX, finP, sl_0, sl_1, sl_2, sl_3, sl_4, sl_5, sl_6, sl_7, sl_8, sl_9, sl_10, sl_11, sl_12, sl_13, sl_14, sl_15, sl_16, sl_17, sl_18, sl_19, sl_20, sl_21, sl_22, sl_23, sl_24, sl_25, sl_26, sl_27, sl_28, sl_29, sl_30, sl_31, sl_32, true_and, and_true, Nat.sub_self, Nat.reduceAdd, Nat.reduceSub, Nat.reduceLT, Nat.reduceLeDiff, Nat.zero_lt_succ, Nat.zero_le, run_isi t0, run_isi t1, run_isi t2, run_eq_bl, run_eq_self h60, srcM, cprE, vZip]
      refine run_cpr ?_
      simp -implicitDefEqProofs only [↓run_cons, ↓run_nil, ↓run_asg, ↓run_set, ↓run_par, ↓run_exp, ↓run_retS, ↓run_retN, ↓run_pass, ↓run_brk, ↓run_cnt, ↓run_iff, ↓run_sto, ↓run_lop, ↓run_ret, ↓run_bind, ↓run_fz, ↓run_stuck, ↓run_var, ↓run_mov, ↓run_has, ↓run_bor, ↓run_put, ↓run_opt, ↓run_callP, ↓run_callIO, ↓run_not, ↓run_mB, ↓look_some, ↓opt_some, ↓optP_some, ↓optIO_some, ↓flow_next, ↓flow_brk, ↓flow_cnt, ↓flow_ret, ↓pick_true, ↓pick_false, cond_and, run_add_int, run_sub_int, run_mul_int, run_fdiv_int, run_mod_int, run_pow_int, run_neg_int, run_idx_tup, run_idx_lst, run_lt_int, run_le_int, run_eq_int, run_tup, run_lstV, run_len_lst, run_len_tup, run_abs_int, run_int_int, run_list_lst, run_list_tup, run_tuple_lst, run_tuple_tup, run_slc_lst, run_slc_tup, run_slc_rol, run_max2, run_min2, run_isN, Option.toList,  run_if, run_ret, run_bind, run_fz, run_var, run_mov, run_has, run_bor, run_put, run_opt, run_callP, run_callIO, run_not, run_mB, look_some, opt_some, optP_some, optIO_some, atI_0, atI_1, atI_2, atI_3, atI_4, ds_of, flat_lst, fz_lst, fz_d, flat_d, lstOf_lst, own_lst, ev, evs, IR.pv, valOf, ev1, ev2, ev2T, chnM, iteM, slcM, endOf, seqD, vBin, vCmp, andV, orV, andT, orT, vTru, putTg, putTgs, IE.isNop, fin, finIO, slot0, startE, List.length_cons, List.length_nil, List.length_set, List.map_cons, List.map_nil, List.cons_append, List.nil_append, List.append_nil, List.getElem?_cons_zero, List.getElem?_cons_succ, List.set_cons_zero, List.set_cons_succ, List.replicate, fzs_d, OV.ds, OV.flat, OV.fz, OV.fzs, lstOf, Option.map_some, Bool.decide_eq_true, if_true, if_false, Bool.false_eq_true, Bool.not_true, Bool.not_false, decide_true, decide_false, wipeE, backE, hideL, stoF_0, stoF_1, stoF_2, stoF_3, stoF_4, finX, finP, sl_0, sl_1, sl_2, sl_3, sl_4, sl_5, sl_6, sl_7, sl_8, sl_9, sl_10, sl_11, sl_12, sl_13, sl_14, sl_15, sl_16, sl_17, sl_18, sl_19, sl_20, sl_21, sl_22, sl_23, sl_24, sl_25, sl_26, sl_27, sl_28, sl_29, sl_30, sl_31, sl_32, true_and, and_true, Nat.sub_self, Nat.reduceAdd, Nat.reduceSub, Nat.reduceLT, Nat.reduceLeDiff, Nat.zero_lt_succ, Nat.zero_le]
      refine ⟨rfl, by simpa using hlen, rfl, ?_⟩
      refine seq xs hxs _ _ fun m => ?_
      simp -implicitDefEqProofs only [↓run_cons, ↓run_nil, ↓run_asg, ↓run_set, ↓run_par, ↓run_exp, ↓run_retS, ↓run_retN, ↓run_pass, ↓run_brk, ↓run_cnt, ↓run_iff, ↓run_sto, ↓run_lop, ↓run_ret, ↓run_bind, ↓run_fz, ↓run_stuck, ↓run_var, ↓run_mov, ↓run_has, ↓run_bor, ↓run_put, ↓run_opt, ↓run_callP, ↓run_callIO, ↓run_not, ↓run_mB, ↓look_some, ↓opt_some, ↓optP_some, ↓optIO_some, ↓flow_next, ↓flow_brk, ↓flow_cnt, ↓flow_ret, ↓pick_true, ↓pick_false, cond_and, run_add_int, run_sub_int, run_mul_int, run_fdiv_int, run_mod_int, run_pow_int, run_neg_int, run_idx_tup, run_idx_lst, run_lt_int, run_le_int, run_eq_int, run_tup, run_lstV, run_len_lst, run_len_tup, run_abs_int, run_int_int, run_list_lst, run_list_tup, run_tuple_lst, run_tuple_tup, run_slc_lst, run_slc_tup, run_slc_rol, run_max2, run_min2, run_isN, Option.toList,  run_if, run_ret, run_bind, run_fz, run_var, run_mov, run_has, run_bor, run_put, run_opt, run_callP, run_callIO, run_not, run_mB, look_some, opt_some, optP_some, optIO_some, atI_0, atI_1, atI_2, atI_3, atI_4, ds_of, flat_lst, fz_lst, fz_d, flat_d, lstOf_lst, own_lst, ev, evs, IR.pv, valOf, ev1, ev2, ev2T, chnM, iteM, slcM, endOf, seqD, vBin, vCmp, andV, orV, andT, orT, vTru, putTg, putTgs, IE.isNop, fin, finIO, slot0, startE, List.length_cons, List.length_nil, List.length_set, List.map_cons, List.map_nil, List.cons_append, List.nil_append, List.append_nil, List.getElem?_cons_zero, List.getElem?_cons_succ, List.set_cons_zero, List.set_cons_succ, List.replicate, fzs_d, OV.ds, OV.flat, OV.fz, OV.fzs, lstOf, Option.map_some, Bool.decide_eq_true, if_true, if_false, Bool.false_eq_true, Bool.not_true, Bool.not_false, decide_true, decide_false, wipeE, backE, hideL, stoF_0, stoF_1, stoF_2, stoF_3, stoF_4, finX, finP, sl_0, sl_1, sl_2, sl_3, sl_4, sl_5, sl_6, sl_7, sl_8, sl_9, sl_10, sl_11, sl_12, sl_13, sl_14, sl_15, sl_16, sl_17, sl_18, sl_19, sl_20, sl_21, sl_22, sl_23, sl_24, sl_25, sl_26, sl_27, sl_28, sl_29, sl_30, sl_31, sl_32, true_and, and_true, Nat.sub_self, Nat.reduceAdd, Nat.reduceSub, Nat.reduceLT, Nat.reduceLeDiff, Nat.zero_lt_succ, Nat.zero_le]
      rw [← List.map_replicate, run_all_bls (bls_map _), all]
      exact hR _
    | _ => first | (simp [D.lik] at hx; done) | exact like_leaf h60 rfl rfl rfl rfl
end
end IR
end
section
set_option Elab.async false
set_option linter.all false
set_option maxRecDepth 100000
set_option maxHeartbeats 0
namespace LW
open PySem PySem.Spec PyProof.Rows L2 IR
/-! the law's defs as data, checked against its text -/
def top (i : Nat) : Stmt := PySem.Challenge.pw_islefade_k01_places.main.body.getD i (.Pass ⟨0, 0, 0, 0⟩)

def b0 : List IS := [(.ret (.and [(.isi (.var 0) [.int]), (.not (.isi (.var 0) [.bool]))]))]
def b1 : List IS := [(.ret (.and [(.isi (.var 0) [.tuple]), (.cmp .eq (.blt .len (.var 0)) (.cst (.int 2))), (.cal 0 [(.idx (.var 0) (.cst (.int 0)))] []), (.cal 0 [(.idx (.var 0) (.cst (.int 1)))] [])]))]
def b2 : List IS := [(.ret (.tup [(.bin .add (.idx (.var 0) (.cst (.int 0))) (.idx (.var 1) (.cst (.int 0)))), (.bin .add (.idx (.var 0) (.cst (.int 1))) (.idx (.var 1) (.cst (.int 1))))]))]
def b3 : List IS := [(.ret (.tup [(.neg (.idx (.var 0) (.cst (.int 0)))), (.neg (.idx (.var 0) (.cst (.int 1))))]))]
def b4 : List IS := [(.ret (.bin .add (.bin .mul (.idx (.var 0) (.cst (.int 0))) (.idx (.var 1) (.cst (.int 0)))) (.bin .mul (.idx (.var 0) (.cst (.int 1))) (.idx (.var 1) (.cst (.int 1))))))]
def b5 : List IS := [(.ret (.bin .sub (.bin .mul (.idx (.var 0) (.cst (.int 0))) (.idx (.var 1) (.cst (.int 1)))) (.bin .mul (.idx (.var 0) (.cst (.int 1))) (.idx (.var 1) (.cst (.int 0))))))]
def b6 : List IS := [(.par 0 1 (.blt .abs (.var 0)) (.blt .abs (.var 1))), (.whl (.cmp .ne (.var 1) (.cst (.int 0))) [(.par 0 1 (.var 1) (.bin .mod (.var 0) (.var 1)))]), (.ret (.mov 0))]
def b7 : List IS := [(.set 1 (.cal 6 [(.idx (.var 0) (.cst (.int 0))), (.idx (.var 0) (.cst (.int 1)))] [])), (.ret (.ite (.cmp .gt (.var 1) (.cst (.int 0))) (.tup [(.bin .fdiv (.idx (.var 0) (.cst (.int 0))) (.var 1)), (.bin .fdiv (.idx (.var 0) (.cst (.int 1))) (.var 1))]) (.var 0)))]
def b8 : List IS := [(.ret (.tup [(.neg (.idx (.var 0) (.cst (.int 1)))), (.idx (.var 0) (.cst (.int 0)))]))]
def b9 : List IS := [(.set 1 (.cst (.int 3839))), (.fr .seq [(.slc (.var 0) .nop (.cst (.int 63)))] (.v 2) [(.set 1 (.bin .mod (.blt .int (.bin .add (.bin .add (.bin .mul (.var 1) (.cst (.int 48271))) (.bin .mod (.blt .int (.var 2)) (.cst (.int 2147483543)))) (.cst (.int 17)))) (.cst (.int 2147483629))))]), (.ret (.lst [(.blt .list (.slc (.var 0) .nop (.cst (.int 63)))), (.cst (.int 0)), (.cst (.int 0)), (.var 1), (.cst (.int 0))]))]
def b10 : List IS := [(.sto 0 (.cst (.int 4)) (.bin .add (.idx (.bor 0) (.cst (.int 4))) (.cst (.int 1)))), (.iff (.and [(.cmp .eq (.idx (.bor 0) (.cst (.int 2))) (.cst (.int 0))), (.cmp .lt (.idx (.bor 0) (.cst (.int 1))) (.blt .len (.idx (.bor 0) (.cst (.int 0)))))]) [(.set 3 (.idx (.idx (.bor 0) (.cst (.int 0))) (.idx (.bor 0) (.cst (.int 1))))), (.sto 0 (.cst (.int 1)) (.bin .add (.idx (.bor 0) (.cst (.int 1))) (.cst (.int 1)))), (.iff (.cmp .ge (.var 3) (.bin .pow (.cst (.int 10)) (.cst (.int 18)))) [(.sto 0 (.cst (.int 2)) (.var 3))] [(.sto 0 (.cst (.int 3)) (.bin .mod (.blt .int (.bin .add (.bin .add (.bin .mul (.idx (.bor 0) (.cst (.int 3))) (.cst (.int 39373))) (.bin .mul (.bin .mod (.blt .int (.var 3)) (.cst (.int 2147483543))) (.cst (.int 40692)))) (.cst (.int 31)))) (.cst (.int 2147483629))))])] []), (.iff (.cmp .gt (.idx (.bor 0) (.cst (.int 2))) (.cst (.int 0))) [(.set 4 (.bin .mod (.blt .int (.idx (.bor 0) (.cst (.int 2)))) (.var 1))), (.sto 0 (.cst (.int 2)) (.bin .fdiv (.idx (.bor 0) (.cst (.int 2))) (.var 1))), (.ret (.mov 4))] []), (.set 2 (.idx (.bor 0) (.cst (.int 3)))), (.sto 0 (.cst (.int 3)) (.bin .mod (.blt .int (.bin .add (.bin .add (.bin .add (.bin .mul (.var 2) (.cst (.int 16807))) (.bin .mul (.bin .fdiv (.var 2) (.cst (.int 127))) (.cst (.int 69621)))) (.bin .mul (.idx (.bor 0) (.cst (.int 4))) (.cst (.int 1299721)))) (.cst (.int 12345)))) (.cst (.int 2147483629)))), (.ret (.bin .mod (.blt .int (.bin .add (.bin .fdiv (.idx (.bor 0) (.cst (.int 3))) (.cst (.int 83))) (.bin .mul (.bin .mod (.blt .int (.idx (.bor 0) (.cst (.int 3)))) (.cst (.int 7919))) (.cst (.int 53))))) (.var 1)))]
def b11 : List IS := [(.ret (.idx (.var 1) (.cio 10 0 [(.blt .len (.var 1))] [])))]
def b12 : List IS := [(.iff (.isi (.var 1) [.list, .tuple]) [(.iff (.or [(.cmp .ne (.isi (.var 0) [.list]) (.isi (.var 1) [.list])), (.cmp .ne (.isi (.var 0) [.tuple]) (.isi (.var 1) [.tuple]))]) [(.ret (.cst (.bl false)))] []), (.ret (.and [(.cmp .eq (.blt .len (.var 0)) (.blt .len (.var 1))), (.blt .all (.cpr .zip [(.var 0), (.var 1)] [2, 3] (.u [(.v 2), (.v 3)]) (.cal 12 [(.var 2), (.var 3)] []) .nop))]))] []), (.iff (.or [(.cmp .isN (.var 1) (.cst .non)), (.cmp .isN (.var 0) (.cst .non))]) [(.ret (.and [(.cmp .isN (.var 1) (.cst .non)), (.cmp .isN (.var 0) (.cst .non))]))] []), (.iff (.or [(.cmp .ne (.isi (.var 1) [.bool]) (.isi (.var 0) [.bool])), (.cmp .ne (.isi (.var 1) [.int]) (.isi (.var 0) [.int]))]) [(.ret (.cst (.bl false)))] []), (.ret (.and [(.cmp .eq (.isi (.var 1) [.str]) (.isi (.var 0) [.str])), (.cmp .eq (.var 0) (.var 1))]))]
def b13 : List IS := [(.set 2 (.bin .sub (.cio 10 0 [(.bin .add (.bin .mul (.cst (.int 2)) (.var 1)) (.cst (.int 1)))] []) (.var 1))), (.ret (.tup [(.var 2), (.bin .sub (.cio 10 0 [(.bin .add (.bin .mul (.cst (.int 2)) (.var 1)) (.cst (.int 1)))] []) (.var 1))]))]
def b14 : List IS := [(.par 0 1 (.blt .abs (.var 0)) (.blt .abs (.var 1))), (.whl (.cmp .ne (.var 1) (.cst (.int 0))) [(.par 0 1 (.var 1) (.bin .mod (.blt .int (.var 0)) (.var 1)))]), (.ret (.mov 0))]
def b15 : List IS := [(.ret (.cio 11 0 [(.lst [(.cst .non), (.cst (.int 3)), (.cst (.str "ab")), (.tup []), (.tup [(.cst (.int 1))]), (.tup [(.cst (.int 1)), (.cst (.int 2)), (.cst (.int 3))]), (.lst [(.cst (.int 1)), (.cst (.int 2))]), (.tup [(.cst (.str "1")), (.cst (.int 2))]), (.tup [(.cst (.bl true)), (.cst (.int 1))]), (.tup [(.cst (.int 1)), (.cst .non)]), (.tup [(.cst (.int 0)), (.lst [(.cst (.int 1))])]), (.neg (.cst (.int 1)))])] []))]
def b16 : List IS := [(.set 1 (.cal 9 [(.var 0)] [])), (.fr .rng [(.cst (.int 6))] (.v 2) [(.par 7 8 (.cio 13 1 [(.cio 11 1 [(.lst [(.cst (.int 1)), (.cst (.int 9)), (.bin .pow (.cst (.int 10)) (.cst (.int 28)))])] [])] []) (.cio 13 1 [(.cio 11 1 [(.lst [(.cst (.int 1)), (.cst (.int 9)), (.bin .pow (.cst (.int 10)) (.cst (.int 28)))])] [])] [])), (.set 3 (.lst [(.cal 2 [(.var 7), (.var 8)] []), (.cal 3 [(.var 7)] []), (.cal 4 [(.var 7), (.var 8)] []), (.cal 5 [(.var 7), (.var 8)] []), (.cal 8 [(.var 7)] [])])), (.set 4 (.lst [(.tup [(.bin .add (.idx (.var 7) (.cst (.int 0))) (.idx (.var 8) (.cst (.int 0)))), (.bin .add (.idx (.var 7) (.cst (.int 1))) (.idx (.var 8) (.cst (.int 1))))]), (.tup [(.neg (.idx (.var 7) (.cst (.int 0)))), (.neg (.idx (.var 7) (.cst (.int 1))))]), (.bin .add (.bin .mul (.idx (.var 7) (.cst (.int 0))) (.idx (.var 8) (.cst (.int 0)))) (.bin .mul (.idx (.var 7) (.cst (.int 1))) (.idx (.var 8) (.cst (.int 1))))), (.bin .sub (.bin .mul (.idx (.var 7) (.cst (.int 0))) (.idx (.var 8) (.cst (.int 1)))) (.bin .mul (.idx (.var 7) (.cst (.int 1))) (.idx (.var 8) (.cst (.int 0)))))])), (.iff (.not (.cal 12 [(.var 3), (.bin .add (.var 4) (.lst [(.tup [(.neg (.idx (.var 7) (.cst (.int 1)))), (.idx (.var 7) (.cst (.int 0)))])]))] [])) [(.ret (.cst (.bl false)))] []), (.set 5 (.cal 14 [(.idx (.var 7) (.cst (.int 0))), (.idx (.var 7) (.cst (.int 1)))] [])), (.iff (.not (.cal 12 [(.cal 7 [(.var 7)] []), (.ite (.cmp .gt (.var 5) (.cst (.int 0))) (.tup [(.bin .fdiv (.idx (.var 7) (.cst (.int 0))) (.var 5)), (.bin .fdiv (.idx (.var 7) (.cst (.int 1))) (.var 5))]) (.var 7))] [])) [(.ret (.cst (.bl false)))] []), (.set 6 (.bin .add (.cst (.int 2)) (.cio 10 1 [(.cst (.int 9))] []))), (.iff (.and [(.cmp .gt (.var 5) (.cst (.int 0))), (.cmp .ne (.cal 7 [(.tup [(.bin .mul (.idx (.var 7) (.cst (.int 0))) (.var 6)), (.bin .mul (.idx (.var 7) (.cst (.int 1))) (.var 6))])] []) (.cal 7 [(.var 7)] []))]) [(.ret (.cst (.bl false)))] []), (.iff (.not (.cal 12 [(.lst [(.cal 1 [(.var 7)] []), (.cal 1 [(.cio 15 1 [] [])] []), (.cal 1 [(.blt .list (.var 7))] [])]), (.lst [(.cst (.bl true)), (.cst (.bl false)), (.cst (.bl false))])] [])) [(.ret (.cst (.bl false)))] [])]), (.ret (.and [(.cmp .eq (.cal 7 [(.tup [(.cst (.int 0)), (.cst (.int 0))])] []) (.tup [(.cst (.int 0)), (.cst (.int 0))])), (.cmp .eq (.cal 8 [(.tup [(.cst (.int 1)), (.cst (.int 0))])] []) (.tup [(.cst (.int 0)), (.cst (.int 1))]))]))]
def d0 : He.DefD := ⟨("is_whole", none), "is_whole", "is_whole", defArgs (top 1), defBody (top 1), defScope (top 1), [], []⟩
def i0 : FI := { x := "is_whole", d := ⟨1, false, 1, b0⟩, names := ["thing"], ps := ["thing"], sc := (defScope (top 1)).names }
def d1 : He.DefD := ⟨("is_place", none), "is_place", "is_place", defArgs (top 2), defBody (top 2), defScope (top 2), [], []⟩
def i1 : FI := { x := "is_place", d := ⟨1, false, 1, b1⟩, names := ["thing"], ps := ["thing"], sc := (defScope (top 2)).names }
def d2 : He.DefD := ⟨("added", none), "added", "added", defArgs (top 3), defBody (top 3), defScope (top 3), [], []⟩
def i2 : FI := { x := "added", d := ⟨2, false, 2, b2⟩, names := ["one", "other"], ps := ["one", "other"], sc := (defScope (top 3)).names }
def d3 : He.DefD := ⟨("opposite", none), "opposite", "opposite", defArgs (top 4), defBody (top 4), defScope (top 4), [], []⟩
def i3 : FI := { x := "opposite", d := ⟨1, false, 1, b3⟩, names := ["place"], ps := ["place"], sc := (defScope (top 4)).names }
def d4 : He.DefD := ⟨("dot", none), "dot", "dot", defArgs (top 5), defBody (top 5), defScope (top 5), [], []⟩
def i4 : FI := { x := "dot", d := ⟨2, false, 2, b4⟩, names := ["one", "other"], ps := ["one", "other"], sc := (defScope (top 5)).names }
def d5 : He.DefD := ⟨("cross", none), "cross", "cross", defArgs (top 6), defBody (top 6), defScope (top 6), [], []⟩
def i5 : FI := { x := "cross", d := ⟨2, false, 2, b5⟩, names := ["one", "other"], ps := ["one", "other"], sc := (defScope (top 6)).names }
def d6 : He.DefD := ⟨("divisor", none), "divisor", "divisor", defArgs (top 7), defBody (top 7), defScope (top 7), [], []⟩
def i6 : FI := { x := "divisor", d := ⟨2, false, 2, b6⟩, names := ["one", "other"], ps := ["one", "other"], sc := (defScope (top 7)).names }
def d7 : He.DefD := ⟨("primitive", none), "primitive", "primitive", defArgs (top 8), defBody (top 8), defScope (top 8), [], []⟩
def i7 : FI := { x := "primitive", d := ⟨1, false, 2, b7⟩, names := ["place", "size"], ps := ["place"], sc := (defScope (top 8)).names }
def d8 : He.DefD := ⟨("turned", none), "turned", "turned", defArgs (top 9), defBody (top 9), defScope (top 9), [], []⟩
def i8 : FI := { x := "turned", d := ⟨1, false, 1, b8⟩, names := ["place"], ps := ["place"], sc := (defScope (top 9)).names }
def d9 : He.DefD := ⟨("_law_cells", none), "_law_cells", "_law_cells", defArgs (top 11), defBody (top 11), defScope (top 11), [], []⟩
def i9 : FI := { x := "_law_cells", d := ⟨1, false, 3, b9⟩, names := ["_law_script", "_law_state", "_law_cell"], ps := ["_law_script"], sc := (defScope (top 11)).names }
def d10 : He.DefD := ⟨("_law_draw", none), "_law_draw", "_law_draw", defArgs (top 12), defBody (top 12), defScope (top 12), [], []⟩
def i10 : FI := { x := "_law_draw", d := ⟨2, true, 5, b10⟩, names := ["_law_bag", "_law_sides", "_law_seed", "_law_cell", "_law_digit"], ps := ["_law_bag", "_law_sides"], sc := (defScope (top 12)).names }
def d11 : He.DefD := ⟨("_law_any", none), "_law_any", "_law_any", defArgs (top 13), defBody (top 13), defScope (top 13), [], []⟩
def i11 : FI := { x := "_law_any", d := ⟨2, true, 2, b11⟩, names := ["_law_bag", "_law_things"], ps := ["_law_bag", "_law_things"], sc := (defScope (top 13)).names }
def d12 : He.DefD := ⟨("_law_like", none), "_law_like", "_law_like", defArgs (top 14), defBody (top 14), defScope (top 14), [], []⟩
def i12 : FI := { x := "_law_like", d := ⟨2, false, 4, b12⟩, names := ["_law_found", "_law_due", "_law_a", "_law_b"], ps := ["_law_found", "_law_due"], sc := (defScope (top 14)).names }
def d13 : He.DefD := ⟨("_law_spot", none), "_law_spot", "_law_spot", defArgs (top 15), defBody (top 15), defScope (top 15), [], []⟩
def i13 : FI := { x := "_law_spot", d := ⟨2, true, 3, b13⟩, names := ["_law_bag", "_law_reach", "_law_across"], ps := ["_law_bag", "_law_reach"], sc := (defScope (top 15)).names }
def d14 : He.DefD := ⟨("_law_gcd", none), "_law_gcd", "_law_gcd", defArgs (top 16), defBody (top 16), defScope (top 16), [], []⟩
def i14 : FI := { x := "_law_gcd", d := ⟨2, false, 2, b14⟩, names := ["_law_left", "_law_right"], ps := ["_law_left", "_law_right"], sc := (defScope (top 16)).names }
def d15 : He.DefD := ⟨("_law_odd", none), "_law_odd", "_law_odd", defArgs (top 17), defBody (top 17), defScope (top 17), [], []⟩
def i15 : FI := { x := "_law_odd", d := ⟨1, true, 1, b15⟩, names := ["_law_bag"], ps := ["_law_bag"], sc := (defScope (top 17)).names }
def d16 : He.DefD := ⟨("law", none), "law", "law", defArgs (top 18), defBody (top 18), defScope (top 18), [], []⟩
def i16 : FI := { x := "law", d := ⟨1, false, 9, b16⟩, names := ["_law_script", "_law_bag", "_law_again", "_law_found", "_law_due", "_law_size", "_law_far", "_law_a", "_law_b"], ps := ["_law_script"], sc := (defScope (top 18)).names }
def irs : List FI := [i0, i1, i2, i3, i4, i5, i6, i7, i8, i9, i10, i11, i12, i13, i14, i15, i16]
def fn : List He.DefD := [d0, d1, d2, d3, d4, d5, d6, d7, d8, d9, d10, d11, d12, d13, d14, d15, d16]
def frees : List Str := ["abs", "all", "bool", "int", "isinstance", "len", "list", "range", "str", "tuple", "zip"]
def fa : List He.Fa := [.glo "is_whole", .glo "is_place", .glo "added", .glo "opposite", .glo "dot", .glo "cross", .glo "divisor", .glo "primitive", .glo "turned", .glo "_law_cells", .glo "_law_draw", .glo "_law_any", .glo "_law_like", .glo "_law_spot", .glo "_law_gcd", .glo "_law_odd", .glo "law", .free "abs", .free "all", .free "bool", .free "int", .free "isinstance", .free "len", .free "list", .free "range", .free "str", .free "tuple", .free "zip"]
abbrev cx (it : FI) : IR.Ctx := ctxOf irs [] frees it
theorem ck0 : mSs (cx i0) b0 (defBody (top 1)) = true := by kernel_rfl
theorem ck1 : mSs (cx i1) b1 (defBody (top 2)) = true := by kernel_rfl
theorem ck2 : mSs (cx i2) b2 (defBody (top 3)) = true := by kernel_rfl
theorem ck3 : mSs (cx i3) b3 (defBody (top 4)) = true := by kernel_rfl
theorem ck4 : mSs (cx i4) b4 (defBody (top 5)) = true := by kernel_rfl
theorem ck5 : mSs (cx i5) b5 (defBody (top 6)) = true := by kernel_rfl
theorem ck6 : mSs (cx i6) b6 (defBody (top 7)) = true := by kernel_rfl
theorem ck7 : mSs (cx i7) b7 (defBody (top 8)) = true := by kernel_rfl
theorem ck8 : mSs (cx i8) b8 (defBody (top 9)) = true := by kernel_rfl
theorem ck9 : mSs (cx i9) b9 (defBody (top 11)) = true := by kernel_rfl
theorem ck10 : mSs (cx i10) b10 (defBody (top 12)) = true := by kernel_rfl
theorem ck11 : mSs (cx i11) b11 (defBody (top 13)) = true := by kernel_rfl
theorem ck12 : mSs (cx i12) b12 (defBody (top 14)) = true := by kernel_rfl
theorem ck13 : mSs (cx i13) b13 (defBody (top 15)) = true := by kernel_rfl
theorem ck14 : mSs (cx i14) b14 (defBody (top 16)) = true := by kernel_rfl
theorem ck15 : mSs (cx i15) b15 (defBody (top 17)) = true := by kernel_rfl
theorem ck16 : mSs (cx i16) b16 (defBody (top 18)) = true := by kernel_rfl
theorem fs0 : FnScope i0.names i0.ps (defScope (top 1)) := ⟨by kernel_rfl, by kernel_rfl, by kernel_rfl, by decide +kernel, by kernel_rfl, by decide +kernel, by decide +kernel⟩
theorem fs1 : FnScope i1.names i1.ps (defScope (top 2)) := ⟨by kernel_rfl, by kernel_rfl, by kernel_rfl, by decide +kernel, by kernel_rfl, by decide +kernel, by decide +kernel⟩
theorem fs2 : FnScope i2.names i2.ps (defScope (top 3)) := ⟨by kernel_rfl, by kernel_rfl, by kernel_rfl, by decide +kernel, by kernel_rfl, by decide +kernel, by decide +kernel⟩
theorem fs3 : FnScope i3.names i3.ps (defScope (top 4)) := ⟨by kernel_rfl, by kernel_rfl, by kernel_rfl, by decide +kernel, by kernel_rfl, by decide +kernel, by decide +kernel⟩
theorem fs4 : FnScope i4.names i4.ps (defScope (top 5)) := ⟨by kernel_rfl, by kernel_rfl, by kernel_rfl, by decide +kernel, by kernel_rfl, by decide +kernel, by decide +kernel⟩
theorem fs5 : FnScope i5.names i5.ps (defScope (top 6)) := ⟨by kernel_rfl, by kernel_rfl, by kernel_rfl, by decide +kernel, by kernel_rfl, by decide +kernel, by decide +kernel⟩
theorem fs6 : FnScope i6.names i6.ps (defScope (top 7)) := ⟨by kernel_rfl, by kernel_rfl, by kernel_rfl, by decide +kernel, by kernel_rfl, by decide +kernel, by decide +kernel⟩
theorem fs7 : FnScope i7.names i7.ps (defScope (top 8)) := ⟨by kernel_rfl, by kernel_rfl, by kernel_rfl, by decide +kernel, by kernel_rfl, by decide +kernel, by decide +kernel⟩
theorem fs8 : FnScope i8.names i8.ps (defScope (top 9)) := ⟨by kernel_rfl, by kernel_rfl, by kernel_rfl, by decide +kernel, by kernel_rfl, by decide +kernel, by decide +kernel⟩
theorem fs9 : FnScope i9.names i9.ps (defScope (top 11)) := ⟨by kernel_rfl, by kernel_rfl, by kernel_rfl, by decide +kernel, by kernel_rfl, by decide +kernel, by decide +kernel⟩
theorem fs10 : FnScope i10.names i10.ps (defScope (top 12)) := ⟨by kernel_rfl, by kernel_rfl, by kernel_rfl, by decide +kernel, by kernel_rfl, by decide +kernel, by decide +kernel⟩
theorem fs11 : FnScope i11.names i11.ps (defScope (top 13)) := ⟨by kernel_rfl, by kernel_rfl, by kernel_rfl, by decide +kernel, by kernel_rfl, by decide +kernel, by decide +kernel⟩
theorem fs12 : FnScope i12.names i12.ps (defScope (top 14)) := ⟨by kernel_rfl, by kernel_rfl, by kernel_rfl, by decide +kernel, by kernel_rfl, by decide +kernel, by decide +kernel⟩
theorem fs13 : FnScope i13.names i13.ps (defScope (top 15)) := ⟨by kernel_rfl, by kernel_rfl, by kernel_rfl, by decide +kernel, by kernel_rfl, by decide +kernel, by decide +kernel⟩
theorem fs14 : FnScope i14.names i14.ps (defScope (top 16)) := ⟨by kernel_rfl, by kernel_rfl, by kernel_rfl, by decide +kernel, by kernel_rfl, by decide +kernel, by decide +kernel⟩
theorem fs15 : FnScope i15.names i15.ps (defScope (top 17)) := ⟨by kernel_rfl, by kernel_rfl, by kernel_rfl, by decide +kernel, by kernel_rfl, by decide +kernel, by decide +kernel⟩
theorem fs16 : FnScope i16.names i16.ps (defScope (top 18)) := ⟨by kernel_rfl, by kernel_rfl, by kernel_rfl, by decide +kernel, by kernel_rfl, by decide +kernel, by decide +kernel⟩
abbrev R : PySem.W.OpenRow := PySem.W.OpenLaw.row PySem.Challenge.rw_islefade_k01_places
abbrev hk : PySem.W.Hook := He.hookD 4 fa fn
def ob (s : PySem.W.SharedT) : He.AlD := He.obsDG 4 fa fn (HandSHeadRun.getT s)
theorem ob_eq (s : PySem.W.SharedT) : ob s = hk.obs s.abs := He.obsDG_eq (HandSHeadRun.getT_eq s)
def loose : List PySem.Str := (["__name__", "is_whole", "is_place", "added", "opposite", "dot", "cross", "divisor", "primitive", "turned", "_law_cells", "_law_draw", "_law_any", "_law_like", "_law_spot", "_law_gcd", "_law_odd"] : List PySem.Str)
theorem run (w : World) : HandSHeadRun.RunEq R (PySem.W.view R.prog [18]) hk ob 3000 loose w := by
  intro os
  kernel_rfl
/-- no defaults: every parameter is given -/
theorem binds0 {K : PySem.W.Frag} {T : Tbl} {x qual : Str} {params : Arguments} {body : List Stmt} {scope : Scope} {kws : List (Str × V)} {f : Addr} {fd : FuncData} {ps : List Str} (F : FunD K x qual params body scope [] kws f fd)
    (h : ∀ (kV doc pm : Value) (an : Option Addr) (cdv ct : Value) (us : List Value), us.length = ps.length → bindArgs (PySem.W.fnOf x qual params body scope .none kV doc pm an cdv ct) ⟨us, []⟩ = pure (ps.zip us)) :
    ∀ dfl ∈ ([[]] : List (List D)), ∃ ds dvs, Binds K fd ps ds ∧ Vals dvs ds ∧ ∀ F, RDs T F dvs dfl := fun dfl hd => by
  rw [List.mem_singleton] at hd
  subst hd
  exact ⟨[], [], F.bindsN h, .nil, fun _ => .nil⟩
theorem bd0 {K : PySem.W.Frag} {fd : FuncData} (F : FunD K d0.name d0.qual d0.params d0.body d0.scope (d0.dvs K) (d0.kws K) (He.fAd K d0.at_) fd) : ∀ dfl ∈ i0.dfls, ∃ ds dvs, Binds K fd i0.ps ds ∧ Vals dvs ds ∧ ∀ G, RDs ⟨K, fun _ => none⟩ G dvs dfl :=
  binds0 F fun _ _ _ _ _ _ us hl => match us, hl with | [_], _ => rfl
theorem bd1 {K : PySem.W.Frag} {fd : FuncData} (F : FunD K d1.name d1.qual d1.params d1.body d1.scope (d1.dvs K) (d1.kws K) (He.fAd K d1.at_) fd) : ∀ dfl ∈ i1.dfls, ∃ ds dvs, Binds K fd i1.ps ds ∧ Vals dvs ds ∧ ∀ G, RDs ⟨K, fun _ => none⟩ G dvs dfl :=
  binds0 F fun _ _ _ _ _ _ us hl => match us, hl with | [_], _ => rfl
theorem bd2 {K : PySem.W.Frag} {fd : FuncData} (F : FunD K d2.name d2.qual d2.params d2.body d2.scope (d2.dvs K) (d2.kws K) (He.fAd K d2.at_) fd) : ∀ dfl ∈ i2.dfls, ∃ ds dvs, Binds K fd i2.ps ds ∧ Vals dvs ds ∧ ∀ G, RDs ⟨K, fun _ => none⟩ G dvs dfl :=
  binds0 F fun _ _ _ _ _ _ us hl => match us, hl with | [_, _], _ => rfl
theorem bd3 {K : PySem.W.Frag} {fd : FuncData} (F : FunD K d3.name d3.qual d3.params d3.body d3.scope (d3.dvs K) (d3.kws K) (He.fAd K d3.at_) fd) : ∀ dfl ∈ i3.dfls, ∃ ds dvs, Binds K fd i3.ps ds ∧ Vals dvs ds ∧ ∀ G, RDs ⟨K, fun _ => none⟩ G dvs dfl :=
  binds0 F fun _ _ _ _ _ _ us hl => match us, hl with | [_], _ => rfl
theorem bd4 {K : PySem.W.Frag} {fd : FuncData} (F : FunD K d4.name d4.qual d4.params d4.body d4.scope (d4.dvs K) (d4.kws K) (He.fAd K d4.at_) fd) : ∀ dfl ∈ i4.dfls, ∃ ds dvs, Binds K fd i4.ps ds ∧ Vals dvs ds ∧ ∀ G, RDs ⟨K, fun _ => none⟩ G dvs dfl :=
  binds0 F fun _ _ _ _ _ _ us hl => match us, hl with | [_, _], _ => rfl
theorem bd5 {K : PySem.W.Frag} {fd : FuncData} (F : FunD K d5.name d5.qual d5.params d5.body d5.scope (d5.dvs K) (d5.kws K) (He.fAd K d5.at_) fd) : ∀ dfl ∈ i5.dfls, ∃ ds dvs, Binds K fd i5.ps ds ∧ Vals dvs ds ∧ ∀ G, RDs ⟨K, fun _ => none⟩ G dvs dfl :=
  binds0 F fun _ _ _ _ _ _ us hl => match us, hl with | [_, _], _ => rfl
theorem bd6 {K : PySem.W.Frag} {fd : FuncData} (F : FunD K d6.name d6.qual d6.params d6.body d6.scope (d6.dvs K) (d6.kws K) (He.fAd K d6.at_) fd) : ∀ dfl ∈ i6.dfls, ∃ ds dvs, Binds K fd i6.ps ds ∧ Vals dvs ds ∧ ∀ G, RDs ⟨K, fun _ => none⟩ G dvs dfl :=
  binds0 F fun _ _ _ _ _ _ us hl => match us, hl with | [_, _], _ => rfl
theorem bd7 {K : PySem.W.Frag} {fd : FuncData} (F : FunD K d7.name d7.qual d7.params d7.body d7.scope (d7.dvs K) (d7.kws K) (He.fAd K d7.at_) fd) : ∀ dfl ∈ i7.dfls, ∃ ds dvs, Binds K fd i7.ps ds ∧ Vals dvs ds ∧ ∀ G, RDs ⟨K, fun _ => none⟩ G dvs dfl :=
  binds0 F fun _ _ _ _ _ _ us hl => match us, hl with | [_], _ => rfl
theorem bd8 {K : PySem.W.Frag} {fd : FuncData} (F : FunD K d8.name d8.qual d8.params d8.body d8.scope (d8.dvs K) (d8.kws K) (He.fAd K d8.at_) fd) : ∀ dfl ∈ i8.dfls, ∃ ds dvs, Binds K fd i8.ps ds ∧ Vals dvs ds ∧ ∀ G, RDs ⟨K, fun _ => none⟩ G dvs dfl :=
  binds0 F fun _ _ _ _ _ _ us hl => match us, hl with | [_], _ => rfl
theorem bd9 {K : PySem.W.Frag} {fd : FuncData} (F : FunD K d9.name d9.qual d9.params d9.body d9.scope (d9.dvs K) (d9.kws K) (He.fAd K d9.at_) fd) : ∀ dfl ∈ i9.dfls, ∃ ds dvs, Binds K fd i9.ps ds ∧ Vals dvs ds ∧ ∀ G, RDs ⟨K, fun _ => none⟩ G dvs dfl :=
  binds0 F fun _ _ _ _ _ _ us hl => match us, hl with | [_], _ => rfl
theorem bd10 {K : PySem.W.Frag} {fd : FuncData} (F : FunD K d10.name d10.qual d10.params d10.body d10.scope (d10.dvs K) (d10.kws K) (He.fAd K d10.at_) fd) : ∀ dfl ∈ i10.dfls, ∃ ds dvs, Binds K fd i10.ps ds ∧ Vals dvs ds ∧ ∀ G, RDs ⟨K, fun _ => none⟩ G dvs dfl :=
  binds0 F fun _ _ _ _ _ _ us hl => match us, hl with | [_, _], _ => rfl
theorem bd11 {K : PySem.W.Frag} {fd : FuncData} (F : FunD K d11.name d11.qual d11.params d11.body d11.scope (d11.dvs K) (d11.kws K) (He.fAd K d11.at_) fd) : ∀ dfl ∈ i11.dfls, ∃ ds dvs, Binds K fd i11.ps ds ∧ Vals dvs ds ∧ ∀ G, RDs ⟨K, fun _ => none⟩ G dvs dfl :=
  binds0 F fun _ _ _ _ _ _ us hl => match us, hl with | [_, _], _ => rfl
theorem bd12 {K : PySem.W.Frag} {fd : FuncData} (F : FunD K d12.name d12.qual d12.params d12.body d12.scope (d12.dvs K) (d12.kws K) (He.fAd K d12.at_) fd) : ∀ dfl ∈ i12.dfls, ∃ ds dvs, Binds K fd i12.ps ds ∧ Vals dvs ds ∧ ∀ G, RDs ⟨K, fun _ => none⟩ G dvs dfl :=
  binds0 F fun _ _ _ _ _ _ us hl => match us, hl with | [_, _], _ => rfl
theorem bd13 {K : PySem.W.Frag} {fd : FuncData} (F : FunD K d13.name d13.qual d13.params d13.body d13.scope (d13.dvs K) (d13.kws K) (He.fAd K d13.at_) fd) : ∀ dfl ∈ i13.dfls, ∃ ds dvs, Binds K fd i13.ps ds ∧ Vals dvs ds ∧ ∀ G, RDs ⟨K, fun _ => none⟩ G dvs dfl :=
  binds0 F fun _ _ _ _ _ _ us hl => match us, hl with | [_, _], _ => rfl
theorem bd14 {K : PySem.W.Frag} {fd : FuncData} (F : FunD K d14.name d14.qual d14.params d14.body d14.scope (d14.dvs K) (d14.kws K) (He.fAd K d14.at_) fd) : ∀ dfl ∈ i14.dfls, ∃ ds dvs, Binds K fd i14.ps ds ∧ Vals dvs ds ∧ ∀ G, RDs ⟨K, fun _ => none⟩ G dvs dfl :=
  binds0 F fun _ _ _ _ _ _ us hl => match us, hl with | [_, _], _ => rfl
theorem bd15 {K : PySem.W.Frag} {fd : FuncData} (F : FunD K d15.name d15.qual d15.params d15.body d15.scope (d15.dvs K) (d15.kws K) (He.fAd K d15.at_) fd) : ∀ dfl ∈ i15.dfls, ∃ ds dvs, Binds K fd i15.ps ds ∧ Vals dvs ds ∧ ∀ G, RDs ⟨K, fun _ => none⟩ G dvs dfl :=
  binds0 F fun _ _ _ _ _ _ us hl => match us, hl with | [_], _ => rfl
theorem bd16 {K : PySem.W.Frag} {fd : FuncData} (F : FunD K d16.name d16.qual d16.params d16.body d16.scope (d16.dvs K) (d16.kws K) (He.fAd K d16.at_) fd) : ∀ dfl ∈ i16.dfls, ∃ ds dvs, Binds K fd i16.ps ds ∧ Vals dvs ds ∧ ∀ G, RDs ⟨K, fun _ => none⟩ G dvs dfl :=
  binds0 F fun _ _ _ _ _ _ us hl => match us, hl with | [_], _ => rfl
theorem facts {K : PySem.W.Frag} {h : Heap} {mg : Str → Option Value} (X : K.In h) (G : h.Ns mainGlobals mg) (c : He.SaysD fa fn K) : ∃ (l : List (Addr × FuncData)) (fd : FuncData), l[16]? = some (He.fAd K d16.at_, fd) ∧
    FIs K mg ⟨K, fun _ => none⟩ (ctxOf irs [] frees) irs l ∧ FunD K d16.name d16.qual d16.params d16.body d16.scope (d16.dvs K) (d16.kws K) (He.fAd K d16.at_) fd := by
  obtain ⟨fd0, F0⟩ := c.def_ 0 (d := d0) rfl
  obtain ⟨fd1, F1⟩ := c.def_ 1 (d := d1) rfl
  obtain ⟨fd2, F2⟩ := c.def_ 2 (d := d2) rfl
  obtain ⟨fd3, F3⟩ := c.def_ 3 (d := d3) rfl
  obtain ⟨fd4, F4⟩ := c.def_ 4 (d := d4) rfl
  obtain ⟨fd5, F5⟩ := c.def_ 5 (d := d5) rfl
  obtain ⟨fd6, F6⟩ := c.def_ 6 (d := d6) rfl
  obtain ⟨fd7, F7⟩ := c.def_ 7 (d := d7) rfl
  obtain ⟨fd8, F8⟩ := c.def_ 8 (d := d8) rfl
  obtain ⟨fd9, F9⟩ := c.def_ 9 (d := d9) rfl
  obtain ⟨fd10, F10⟩ := c.def_ 10 (d := d10) rfl
  obtain ⟨fd11, F11⟩ := c.def_ 11 (d := d11) rfl
  obtain ⟨fd12, F12⟩ := c.def_ 12 (d := d12) rfl
  obtain ⟨fd13, F13⟩ := c.def_ 13 (d := d13) rfl
  obtain ⟨fd14, F14⟩ := c.def_ 14 (d := d14) rfl
  obtain ⟨fd15, F15⟩ := c.def_ 15 (d := d15) rfl
  obtain ⟨fd16, F16⟩ := c.def_ 16 (d := d16) rfl
  refine ⟨[(He.fAd K d0.at_, fd0), (He.fAd K d1.at_, fd1), (He.fAd K d2.at_, fd2), (He.fAd K d3.at_, fd3), (He.fAd K d4.at_, fd4), (He.fAd K d5.at_, fd5), (He.fAd K d6.at_, fd6), (He.fAd K d7.at_, fd7), (He.fAd K d8.at_, fd8), (He.fAd K d9.at_, fd9), (He.fAd K d10.at_, fd10), (He.fAd K d11.at_, fd11), (He.fAd K d12.at_, fd12), (He.fAd K d13.at_, fd13), (He.fAd K d14.at_, fd14), (He.fAd K d15.at_, fd15), (He.fAd K d16.at_, fd16)], fd16, rfl, ?_, F16⟩
  refine .cons ⟨⟨_, _, _, _, _, _, _, F0, fs0, ck0, rfl⟩, rfl, rfl, He.glo_ok X G (c.fact 0 (f := .glo "is_whole") rfl), bd0 F0⟩ ?_
  refine .cons ⟨⟨_, _, _, _, _, _, _, F1, fs1, ck1, rfl⟩, rfl, rfl, He.glo_ok X G (c.fact 1 (f := .glo "is_place") rfl), bd1 F1⟩ ?_
  refine .cons ⟨⟨_, _, _, _, _, _, _, F2, fs2, ck2, rfl⟩, rfl, rfl, He.glo_ok X G (c.fact 2 (f := .glo "added") rfl), bd2 F2⟩ ?_
  refine .cons ⟨⟨_, _, _, _, _, _, _, F3, fs3, ck3, rfl⟩, rfl, rfl, He.glo_ok X G (c.fact 3 (f := .glo "opposite") rfl), bd3 F3⟩ ?_
  refine .cons ⟨⟨_, _, _, _, _, _, _, F4, fs4, ck4, rfl⟩, rfl, rfl, He.glo_ok X G (c.fact 4 (f := .glo "dot") rfl), bd4 F4⟩ ?_
  refine .cons ⟨⟨_, _, _, _, _, _, _, F5, fs5, ck5, rfl⟩, rfl, rfl, He.glo_ok X G (c.fact 5 (f := .glo "cross") rfl), bd5 F5⟩ ?_
  refine .cons ⟨⟨_, _, _, _, _, _, _, F6, fs6, ck6, rfl⟩, rfl, rfl, He.glo_ok X G (c.fact 6 (f := .glo "divisor") rfl), bd6 F6⟩ ?_
  refine .cons ⟨⟨_, _, _, _, _, _, _, F7, fs7, ck7, rfl⟩, rfl, rfl, He.glo_ok X G (c.fact 7 (f := .glo "primitive") rfl), bd7 F7⟩ ?_
  refine .cons ⟨⟨_, _, _, _, _, _, _, F8, fs8, ck8, rfl⟩, rfl, rfl, He.glo_ok X G (c.fact 8 (f := .glo "turned") rfl), bd8 F8⟩ ?_
  refine .cons ⟨⟨_, _, _, _, _, _, _, F9, fs9, ck9, rfl⟩, rfl, rfl, He.glo_ok X G (c.fact 9 (f := .glo "_law_cells") rfl), bd9 F9⟩ ?_
  refine .cons ⟨⟨_, _, _, _, _, _, _, F10, fs10, ck10, rfl⟩, rfl, rfl, He.glo_ok X G (c.fact 10 (f := .glo "_law_draw") rfl), bd10 F10⟩ ?_
  refine .cons ⟨⟨_, _, _, _, _, _, _, F11, fs11, ck11, rfl⟩, rfl, rfl, He.glo_ok X G (c.fact 11 (f := .glo "_law_any") rfl), bd11 F11⟩ ?_
  refine .cons ⟨⟨_, _, _, _, _, _, _, F12, fs12, ck12, rfl⟩, rfl, rfl, He.glo_ok X G (c.fact 12 (f := .glo "_law_like") rfl), bd12 F12⟩ ?_
  refine .cons ⟨⟨_, _, _, _, _, _, _, F13, fs13, ck13, rfl⟩, rfl, rfl, He.glo_ok X G (c.fact 13 (f := .glo "_law_spot") rfl), bd13 F13⟩ ?_
  refine .cons ⟨⟨_, _, _, _, _, _, _, F14, fs14, ck14, rfl⟩, rfl, rfl, He.glo_ok X G (c.fact 14 (f := .glo "_law_gcd") rfl), bd14 F14⟩ ?_
  refine .cons ⟨⟨_, _, _, _, _, _, _, F15, fs15, ck15, rfl⟩, rfl, rfl, He.glo_ok X G (c.fact 15 (f := .glo "_law_odd") rfl), bd15 F15⟩ ?_
  refine .cons ⟨⟨_, _, _, _, _, _, _, F16, fs16, ck16, rfl⟩, rfl, rfl, He.glo_ok X G (c.fact 16 (f := .glo "law") rfl), bd16 F16⟩ ?_
  exact .nil
theorem frees_ok {K : PySem.W.Frag} {h : Heap} {mg : Str → Option Value} (X : K.In h) (G : h.Ns mainGlobals mg) (c : He.SaysD fa fn K) : ∀ x ∈ frees, mg x = none := by
  unfold frees
  simp only [List.mem_cons, List.not_mem_nil, or_false, forall_eq_or_imp, forall_eq]
  exact ⟨He.free_ok X G (c.fact 17 (f := .free "abs") rfl), He.free_ok X G (c.fact 18 (f := .free "all") rfl), He.free_ok X G (c.fact 19 (f := .free "bool") rfl), He.free_ok X G (c.fact 20 (f := .free "int") rfl), He.free_ok X G (c.fact 21 (f := .free "isinstance") rfl), He.free_ok X G (c.fact 22 (f := .free "len") rfl), He.free_ok X G (c.fact 23 (f := .free "list") rfl), He.free_ok X G (c.fact 24 (f := .free "range") rfl), He.free_ok X G (c.fact 25 (f := .free "str") rfl), He.free_ok X G (c.fact 26 (f := .free "tuple") rfl), He.free_ok X G (c.fact 27 (f := .free "zip") rfl)⟩
def NN : Nat := 2 ^ 400
abbrev GG (k : Nat) : GF := evP (defsOf irs) (fun _ => none) NN k
end LW
open PySem PySem.W PySem.Calls PyProof.Rows
theorem law_of (hm : ∀ ns : List Int, ns.length ≤ 63 → LW.GG 40 16 none [.rol (ns.map .int)] = some (.ok (.d (.bl true)), none)) : PySem.Challenge.rw_islefade_k01_places.Holds := by
  w_on; o_law
  refine HandSHeadRun.head_any (r := OpenLaw.row PySem.Challenge.rw_islefade_k01_places) (q := view (OpenLaw.row PySem.Challenge.rw_islefade_k01_places).prog [18]) (H := LW.hk) (ob := LW.ob) (M := 3000) (loose := LW.loose) (d := HandSHeadRun.topDef (OpenLaw.row PySem.Challenge.rw_islefade_k01_places).prog 18) (kwd := []) LW.ob_eq
    (by kernel_rfl) (fun s => by kernel_rfl) LW.run (by kernel_rfl) (by kernel_rfl) (by kernel_rfl) (by rfl) (by first | assumption | decide +kernel) (by decide +kernel) ⟨rfl, rfl, rfl, rfl, rfl, by decide +kernel⟩ ?hw ?hc
  case hw => w_witness2
  case hc =>
    refine IR.walk_ofW (l := PySem.Challenge.rw_islefade_k01_places) (n := 63) (k := 40) (x := "_law_script") (CX := fun w => L2.CX (PySem.Challenge.rw_islefade_k01_places).prog w) rfl (by decide) (by kernel_rfl) ⟨rfl, by decide, by decide⟩ ?F (fun w H s e s' z => by
      obtain ⟨_, _, _, _, _, _, _, _, _, _, _, _, q⟩ := z
      exact q.elim)
    intro w mg fa h Y G hmg0
    obtain ⟨K, KX, c⟩ := Y
    have hmg : mg ("law" : PySem.Str) = some (.ref fa) := by
      have e : (HandSHeadRun.topDef (OpenLaw.row PySem.Challenge.rw_islefade_k01_places).prog 18).name = ("law" : PySem.Str) := by kernel_rfl
      rw [← e]
      exact hmg0
    obtain ⟨l, fd, hl, hF, F⟩ := LW.facts KX G c
    have e := hmg.symm.trans (He.glo_ok KX G (c.fact 16 (f := .glo "law") rfl))
    cases e
    have b := L2.FunD.bindsA (ps := ["_law_script"]) F fun _ _ _ _ _ _ us hl => match us, hl with | [_], _ => rfl
    exact ⟨K, fd, _, KX, fun s v => b s [v] rfl, fun H a ns hn _ hS => IR.spP_law (T := ⟨K, fun _ => none⟩) rfl hS (hm ns hn), fun base _ _ => IR.prog_ok (T := ⟨K, fun _ => none⟩) (C := fun _ => none) (N := LW.NN) (irs := LW.irs) (cons := []) (free := LW.frees) (base := base) rfl hF (fun x n z => by cases z) (LW.frees_ok KX G c) 40 16 LW.i16 _ fd rfl hl⟩
end
section
set_option Elab.async false
set_option linter.all false
set_option maxRecDepth 100000
set_option maxHeartbeats 8000000
/-! K01: the law's defs, and the law. -/
namespace IR
open PySem PySem.Spec L2
theorem Sz.gcd {n : Nat} {a b : Int} (ha : Sz n a) (hb : Sz n b) : Sz n (Int.gcd a b : Int) := by
  unfold Sz at *
  rw [Int.natAbs_natCast]
  unfold Int.gcd
  by_cases h : a.natAbs = 0
  · rw [h, Nat.gcd_zero_left]; exact hb
  · exact Nat.lt_of_le_of_lt (Nat.gcd_le_left _ (Nat.pos_of_ne_zero h)) ha
theorem Sz.flog {n : Nat} {a : Int} (h : Sz n a) (hn : n < 9000) : a.natAbs.log2 < 9000 := Nat.lt_of_le_of_lt h.log hn
def isWh : D → Bool
  | .int _ => true
  | _ => false
def isPl : D → Bool
  | .tup [a, b] => isWh a && isWh b
  | _ => false
def plain : D → Bool
  | .dic _ => false
  | .obj _ _ => false
  | .rol _ => false
  | _ => true
end IR
namespace K01
open PySem PySem.Spec L2 IR
open LW hiding run top
abbrev E (k : Nat) : GF := PG (defsOf irs) (fun _ => none) NN k
theorem whole_ok (k : Nat) (x : D) (hx : plain x = true) : E (k + 1) 0 none [x] = some (.ok (.d (.bl (isWh x))), none) := by
  refine ecall_P (d := i0.d) rfl rfl ?_
  unfold i0 b0
  cases x <;> first | (cases hx; done) | skip
  all_goals simp -implicitDefEqProofs only [↓run_cons, ↓run_nil, ↓run_asg, ↓run_set, ↓run_par, ↓run_exp, ↓run_retS, ↓run_retN, ↓run_pass, ↓run_brk, ↓run_cnt, ↓run_iff, ↓run_sto, ↓run_lop, ↓run_ret, ↓run_bind, ↓run_fz, ↓run_stuck, ↓run_var, ↓run_mov, ↓run_has, ↓run_bor, ↓run_put, ↓run_opt, ↓run_callP, ↓run_callIO, ↓run_not, ↓run_mB, ↓look_some, ↓opt_some, ↓optP_some, ↓optIO_some, ↓flow_next, ↓flow_brk, ↓flow_cnt, ↓flow_ret, ↓pick_true, ↓pick_false, cond_and, run_add_int, run_sub_int, run_mul_int, run_fdiv_int, run_mod_int, run_pow_int, run_neg_int, run_idx_tup, run_idx_lst, run_lt_int, run_le_int, run_eq_int, run_tup, run_lstV, run_len_lst, run_len_tup, run_abs_int, run_int_int, run_list_lst, run_list_tup, run_tuple_lst, run_tuple_tup, run_slc_lst, run_slc_tup, run_slc_rol, run_max2, run_min2, run_isN, Option.toList,  run_if, run_ret, run_bind, run_fz, run_var, run_mov, run_has, run_bor, run_put, run_opt, run_callP, run_callIO, run_not, run_mB, look_some, opt_some, optP_some, optIO_some, atI_0, atI_1, atI_2, atI_3, atI_4, ds_of, flat_lst, fz_lst, fz_d, flat_d, lstOf_lst, own_lst, ev, evs, IR.pv, valOf, ev1, ev2, ev2T, chnM, iteM, slcM, endOf, seqD, vBin, vCmp, andV, orV, andT, orT, vTru, putTg, putTgs, IE.isNop, fin, finIO, slot0, startE, List.length_cons, List.length_nil, List.length_set, List.map_cons, List.map_nil, List.cons_append, List.nil_append, List.append_nil, List.getElem?_cons_zero, List.getElem?_cons_succ, List.set_cons_zero, List.set_cons_succ, List.replicate, fzs_d, OV.ds, OV.flat, OV.fz, OV.fzs, lstOf, Option.map_some, Bool.decide_eq_true, if_true, if_false, Bool.false_eq_true, Bool.not_true, Bool.not_false, decide_true, decide_false, wipeE, backE, hideL, stoF_0, stoF_1, stoF_2, stoF_3, stoF_4, finX, finP, sl_0, sl_1, sl_2, sl_3, sl_4, sl_5, sl_6, sl_7, sl_8, sl_9, sl_10, sl_11, sl_12, sl_13, sl_14, sl_15, sl_16, sl_17, sl_18, sl_19, sl_20, sl_21, sl_22, sl_23, sl_24, sl_25, sl_26, sl_27, sl_28, sl_29, sl_30, sl_31, sl_32, true_and, and_true, Nat.sub_self, Nat.reduceAdd, Nat.reduceSub, Nat.reduceLT, Nat.reduceLeDiff, Nat.zero_lt_succ, Nat.zero_le, vIsi, D.isTys, D.isTy]
  all_goals rfl
theorem place_ok (k : Nat) (x : D) (hx : plain x = true) (hi : ∀ a b, x = .tup [a, b] → plain a = true ∧ plain b = true) : E (k + 2) 1 none [x] = some (.ok (.d (.bl (isPl x))), none) := by
  refine ecall_P (d := i1.d) rfl rfl ?_
  unfold i1 b1
  cases x <;> first | (cases hx; done) | skip
  all_goals simp -implicitDefEqProofs only [↓run_cons, ↓run_nil, ↓run_asg, ↓run_set, ↓run_par, ↓run_exp, ↓run_retS, ↓run_retN, ↓run_pass, ↓run_brk, ↓run_cnt, ↓run_iff, ↓run_sto, ↓run_lop, ↓run_ret, ↓run_bind, ↓run_fz, ↓run_stuck, ↓run_var, ↓run_mov, ↓run_has, ↓run_bor, ↓run_put, ↓run_opt, ↓run_callP, ↓run_callIO, ↓run_not, ↓run_mB, ↓look_some, ↓opt_some, ↓optP_some, ↓optIO_some, ↓flow_next, ↓flow_brk, ↓flow_cnt, ↓flow_ret, ↓pick_true, ↓pick_false, cond_and, run_add_int, run_sub_int, run_mul_int, run_fdiv_int, run_mod_int, run_pow_int, run_neg_int, run_idx_tup, run_idx_lst, run_lt_int, run_le_int, run_eq_int, run_tup, run_lstV, run_len_lst, run_len_tup, run_abs_int, run_int_int, run_list_lst, run_list_tup, run_tuple_lst, run_tuple_tup, run_slc_lst, run_slc_tup, run_slc_rol, run_max2, run_min2, run_isN, Option.toList,  run_if, run_ret, run_bind, run_fz, run_var, run_mov, run_has, run_bor, run_put, run_opt, run_callP, run_callIO, run_not, run_mB, look_some, opt_some, optP_some, optIO_some, atI_0, atI_1, atI_2, atI_3, atI_4, ds_of, flat_lst, fz_lst, fz_d, flat_d, lstOf_lst, own_lst, ev, evs, IR.pv, valOf, ev1, ev2, ev2T, chnM, iteM, slcM, endOf, seqD, vBin, vCmp, andV, orV, andT, orT, vTru, putTg, putTgs, IE.isNop, fin, finIO, slot0, startE, List.length_cons, List.length_nil, List.length_set, List.map_cons, List.map_nil, List.cons_append, List.nil_append, List.append_nil, List.getElem?_cons_zero, List.getElem?_cons_succ, List.set_cons_zero, List.set_cons_succ, List.replicate, fzs_d, OV.ds, OV.flat, OV.fz, OV.fzs, lstOf, Option.map_some, Bool.decide_eq_true, if_true, if_false, Bool.false_eq_true, Bool.not_true, Bool.not_false, decide_true, decide_false, wipeE, backE, hideL, stoF_0, stoF_1, stoF_2, stoF_3, stoF_4, finX, finP, sl_0, sl_1, sl_2, sl_3, sl_4, sl_5, sl_6, sl_7, sl_8, sl_9, sl_10, sl_11, sl_12, sl_13, sl_14, sl_15, sl_16, sl_17, sl_18, sl_19, sl_20, sl_21, sl_22, sl_23, sl_24, sl_25, sl_26, sl_27, sl_28, sl_29, sl_30, sl_31, sl_32, true_and, and_true, Nat.sub_self, Nat.reduceAdd, Nat.reduceSub, Nat.reduceLT, Nat.reduceLeDiff, Nat.zero_lt_succ, Nat.zero_le, vIsi, D.isTys, D.isTy]
  all_goals try rfl
  rename_i xs
  by_cases h2 : xs.length = 2
  · match xs, h2 with
    | [a, b], _ =>
      obtain ⟨pa, pb⟩ := hi a b rfl
      refine pick_dec (fun _ => ?_) (fun h => absurd rfl h)
      simp -implicitDefEqProofs only [↓run_cons, ↓run_nil, ↓run_asg, ↓run_set, ↓run_par, ↓run_exp, ↓run_retS, ↓run_retN, ↓run_pass, ↓run_brk, ↓run_cnt, ↓run_iff, ↓run_sto, ↓run_lop, ↓run_ret, ↓run_bind, ↓run_fz, ↓run_stuck, ↓run_var, ↓run_mov, ↓run_has, ↓run_bor, ↓run_put, ↓run_opt, ↓run_callP, ↓run_callIO, ↓run_not, ↓run_mB, ↓look_some, ↓opt_some, ↓optP_some, ↓optIO_some, ↓flow_next, ↓flow_brk, ↓flow_cnt, ↓flow_ret, ↓pick_true, ↓pick_false, cond_and, run_add_int, run_sub_int, run_mul_int, run_fdiv_int, run_mod_int, run_pow_int, run_neg_int, run_idx_tup, run_idx_lst, run_lt_int, run_le_int, run_eq_int, run_tup, run_lstV, run_len_lst, run_len_tup, run_abs_int, run_int_int, run_list_lst, run_list_tup, run_tuple_lst, run_tuple_tup, run_slc_lst, run_slc_tup, run_slc_rol, run_max2, run_min2, run_isN, Option.toList,  run_if, run_ret, run_bind, run_fz, run_var, run_mov, run_has, run_bor, run_put, run_opt, run_callP, run_callIO, run_not, run_mB, look_some, opt_some, optP_some, optIO_some, atI_0, atI_1, atI_2, atI_3, atI_4, ds_of, flat_lst, fz_lst, fz_d, flat_d, lstOf_lst, own_lst, ev, evs, IR.pv, valOf, ev1, ev2, ev2T, chnM, iteM, slcM, endOf, seqD, vBin, vCmp, andV, orV, andT, orT, vTru, putTg, putTgs, IE.isNop, fin, finIO, slot0, startE, List.length_cons, List.length_nil, List.length_set, List.map_cons, List.map_nil, List.cons_append, List.nil_append, List.append_nil, List.getElem?_cons_zero, List.getElem?_cons_succ, List.set_cons_zero, List.set_cons_succ, List.replicate, fzs_d, OV.ds, OV.flat, OV.fz, OV.fzs, lstOf, Option.map_some, Bool.decide_eq_true, if_true, if_false, Bool.false_eq_true, Bool.not_true, Bool.not_false, decide_true, decide_false, wipeE, backE, hideL, stoF_0, stoF_1, stoF_2, stoF_3, stoF_4, finX, finP, sl_0, sl_1, sl_2, sl_3, sl_4, sl_5, sl_6, sl_7, sl_8, sl_9, sl_10, sl_11, sl_12, sl_13, sl_14, sl_15, sl_16, sl_17, sl_18, sl_19, sl_20, sl_21, sl_22, sl_23, sl_24, sl_25, sl_26, sl_27, sl_28, sl_29, sl_30, sl_31, sl_32, true_and, and_true, Nat.sub_self, Nat.reduceAdd, Nat.reduceSub, Nat.reduceLT, Nat.reduceLeDiff, Nat.zero_lt_succ, Nat.zero_le, whole_ok k a pa, whole_ok k b pb]
      cases ha : isWh a
      · simp -implicitDefEqProofs only [↓run_cons, ↓run_nil, ↓run_asg, ↓run_set, ↓run_par, ↓run_exp, ↓run_retS, ↓run_retN, ↓run_pass, ↓run_brk, ↓run_cnt, ↓run_iff, ↓run_sto, ↓run_lop, ↓run_ret, ↓run_bind, ↓run_fz, ↓run_stuck, ↓run_var, ↓run_mov, ↓run_has, ↓run_bor, ↓run_put, ↓run_opt, ↓run_callP, ↓run_callIO, ↓run_not, ↓run_mB, ↓look_some, ↓opt_some, ↓optP_some, ↓optIO_some, ↓flow_next, ↓flow_brk, ↓flow_cnt, ↓flow_ret, ↓pick_true, ↓pick_false, cond_and, run_add_int, run_sub_int, run_mul_int, run_fdiv_int, run_mod_int, run_pow_int, run_neg_int, run_idx_tup, run_idx_lst, run_lt_int, run_le_int, run_eq_int, run_tup, run_lstV, run_len_lst, run_len_tup, run_abs_int, run_int_int, run_list_lst, run_list_tup, run_tuple_lst, run_tuple_tup, run_slc_lst, run_slc_tup, run_slc_rol, run_max2, run_min2, run_isN, Option.toList,  run_if, run_ret, run_bind, run_fz, run_var, run_mov, run_has, run_bor, run_put, run_opt, run_callP, run_callIO, run_not, run_mB, look_some, opt_some, optP_some, optIO_some, atI_0, atI_1, atI_2, atI_3, atI_4, ds_of, flat_lst, fz_lst, fz_d, flat_d, lstOf_lst, own_lst, ev, evs, IR.pv, valOf, ev1, ev2, ev2T, chnM, iteM, slcM, endOf, seqD, vBin, vCmp, andV, orV, andT, orT, vTru, putTg, putTgs, IE.isNop, fin, finIO, slot0, startE, List.length_cons, List.length_nil, List.length_set, List.map_cons, List.map_nil, List.cons_append, List.nil_append, List.append_nil, List.getElem?_cons_zero, List.getElem?_cons_succ, List.set_cons_zero, List.set_cons_succ, List.replicate, fzs_d, OV.ds, OV.flat, OV.fz, OV.fzs, lstOf, Option.map_some, Bool.decide_eq_true, if_true, if_false, Bool.false_eq_true, Bool.not_true, Bool.not_false, decide_true, decide_false, wipeE, backE, hideL, stoF_0, stoF_1, stoF_2, stoF_3, stoF_4, finX, finP, sl_0, sl_1, sl_2, sl_3, sl_4, sl_5, sl_6, sl_7, sl_8, sl_9, sl_10, sl_11, sl_12, sl_13, sl_14, sl_15, sl_16, sl_17, sl_18, sl_19, sl_20, sl_21, sl_22, sl_23, sl_24, sl_25, sl_26, sl_27, sl_28, sl_29, sl_30, sl_31, sl_32, true_and, and_true, Nat.sub_self, Nat.reduceAdd, Nat.reduceSub, Nat.reduceLT, Nat.reduceLeDiff, Nat.zero_lt_succ, Nat.zero_le]
        simp only [isPl, ha, Bool.false_and]
      · simp -implicitDefEqProofs only [↓run_cons, ↓run_nil, ↓run_asg, ↓run_set, ↓run_par, ↓run_exp, ↓run_retS, ↓run_retN, ↓run_pass, ↓run_brk, ↓run_cnt, ↓run_iff, ↓run_sto, ↓run_lop, ↓run_ret, ↓run_bind, ↓run_fz, ↓run_stuck, ↓run_var, ↓run_mov, ↓run_has, ↓run_bor, ↓run_put, ↓run_opt, ↓run_callP, ↓run_callIO, ↓run_not, ↓run_mB, ↓look_some, ↓opt_some, ↓optP_some, ↓optIO_some, ↓flow_next, ↓flow_brk, ↓flow_cnt, ↓flow_ret, ↓pick_true, ↓pick_false, cond_and, run_add_int, run_sub_int, run_mul_int, run_fdiv_int, run_mod_int, run_pow_int, run_neg_int, run_idx_tup, run_idx_lst, run_lt_int, run_le_int, run_eq_int, run_tup, run_lstV, run_len_lst, run_len_tup, run_abs_int, run_int_int, run_list_lst, run_list_tup, run_tuple_lst, run_tuple_tup, run_slc_lst, run_slc_tup, run_slc_rol, run_max2, run_min2, run_isN, Option.toList,  run_if, run_ret, run_bind, run_fz, run_var, run_mov, run_has, run_bor, run_put, run_opt, run_callP, run_callIO, run_not, run_mB, look_some, opt_some, optP_some, optIO_some, atI_0, atI_1, atI_2, atI_3, atI_4, ds_of, flat_lst, fz_lst, fz_d, flat_d, lstOf_lst, own_lst, ev, evs, IR.pv, valOf, ev1, ev2, ev2T, chnM, iteM, slcM, endOf, seqD, vBin, vCmp, andV, orV, andT, orT, vTru, putTg, putTgs, IE.isNop, fin, finIO, slot0, startE, List.length_cons, List.length_nil, List.length_set, List.map_cons, List.map_nil, List.cons_append, List.nil_append, List.append_nil, List.getElem?_cons_zero, List.getElem?_cons_succ, List.set_cons_zero, List.set_cons_succ, List.replicate, fzs_d, OV.ds, OV.flat, OV.fz, OV.fzs, lstOf, Option.map_some, Bool.decide_eq_true, if_true, if_false, Bool.false_eq_true, Bool.not_true, Bool.not_false, decide_true, decide_false, wipeE, backE, hideL, stoF_0, stoF_1, stoF_2, stoF_3, stoF_4, finX, finP, sl_0, sl_1, sl_2, sl_3, sl_4, sl_5, sl_6, sl_7, sl_8, sl_9, sl_10, sl_11, sl_12, sl_13, sl_14, sl_15, sl_16, sl_17, sl_18, sl_19, sl_20, sl_21, sl_22, sl_23, sl_24, sl_25, sl_26, sl_27, sl_28, sl_29, sl_30, sl_31, sl_32, true_and, and_true, Nat.sub_self, Nat.reduceAdd, Nat.reduceSub, Nat.reduceLT, Nat.reduceLeDiff, Nat.zero_lt_succ, Nat.zero_le, whole_ok k b pb]
        simp only [isPl, ha, Bool.true_and]
  · have hne : ¬ ((xs.length : Int) = 2) := by omega
    refine pick_dec (fun h => absurd h hne) (fun _ => ?_)
    simp -implicitDefEqProofs only [↓run_cons, ↓run_nil, ↓run_asg, ↓run_set, ↓run_par, ↓run_exp, ↓run_retS, ↓run_retN, ↓run_pass, ↓run_brk, ↓run_cnt, ↓run_iff, ↓run_sto, ↓run_lop, ↓run_ret, ↓run_bind, ↓run_fz, ↓run_stuck, ↓run_var, ↓run_mov, ↓run_has, ↓run_bor, ↓run_put, ↓run_opt, ↓run_callP, ↓run_callIO, ↓run_not, ↓run_mB, ↓look_some, ↓opt_some, ↓optP_some, ↓optIO_some, ↓flow_next, ↓flow_brk, ↓flow_cnt, ↓flow_ret, ↓pick_true, ↓pick_false, cond_and, run_add_int, run_sub_int, run_mul_int, run_fdiv_int, run_mod_int, run_pow_int, run_neg_int, run_idx_tup, run_idx_lst, run_lt_int, run_le_int, run_eq_int, run_tup, run_lstV, run_len_lst, run_len_tup, run_abs_int, run_int_int, run_list_lst, run_list_tup, run_tuple_lst, run_tuple_tup, run_slc_lst, run_slc_tup, run_slc_rol, run_max2, run_min2, run_isN, Option.toList,  run_if, run_ret, run_bind, run_fz, run_var, run_mov, run_has, run_bor, run_put, run_opt, run_callP, run_callIO, run_not, run_mB, look_some, opt_some, optP_some, optIO_some, atI_0, atI_1, atI_2, atI_3, atI_4, ds_of, flat_lst, fz_lst, fz_d, flat_d, lstOf_lst, own_lst, ev, evs, IR.pv, valOf, ev1, ev2, ev2T, chnM, iteM, slcM, endOf, seqD, vBin, vCmp, andV, orV, andT, orT, vTru, putTg, putTgs, IE.isNop, fin, finIO, slot0, startE, List.length_cons, List.length_nil, List.length_set, List.map_cons, List.map_nil, List.cons_append, List.nil_append, List.append_nil, List.getElem?_cons_zero, List.getElem?_cons_succ, List.set_cons_zero, List.set_cons_succ, List.replicate, fzs_d, OV.ds, OV.flat, OV.fz, OV.fzs, lstOf, Option.map_some, Bool.decide_eq_true, if_true, if_false, Bool.false_eq_true, Bool.not_true, Bool.not_false, decide_true, decide_false, wipeE, backE, hideL, stoF_0, stoF_1, stoF_2, stoF_3, stoF_4, finX, finP, sl_0, sl_1, sl_2, sl_3, sl_4, sl_5, sl_6, sl_7, sl_8, sl_9, sl_10, sl_11, sl_12, sl_13, sl_14, sl_15, sl_16, sl_17, sl_18, sl_19, sl_20, sl_21, sl_22, sl_23, sl_24, sl_25, sl_26, sl_27, sl_28, sl_29, sl_30, sl_31, sl_32, true_and, and_true, Nat.sub_self, Nat.reduceAdd, Nat.reduceSub, Nat.reduceLT, Nat.reduceLeDiff, Nat.zero_lt_succ, Nat.zero_le, hne]
    match xs, h2 with
    | [], _ => rfl
    | [_], _ => rfl
    | _ :: _ :: _ :: _, _ => rfl
theorem added_ok (k : Nat) (a b c d : Int) : E (k + 1) 2 none [.tup [.int a, .int b], .tup [.int c, .int d]] = some (.ok (.d (.tup [.int (a + c), .int (b + d)])), none) := by
  refine ecall_P (d := i2.d) rfl rfl ?_
  unfold i2 b2
  simp -implicitDefEqProofs only [↓run_cons, ↓run_nil, ↓run_asg, ↓run_set, ↓run_par, ↓run_exp, ↓run_retS, ↓run_retN, ↓run_pass, ↓run_brk, ↓run_cnt, ↓run_iff, ↓run_sto, ↓run_lop, ↓run_ret, ↓run_bind, ↓run_fz, ↓run_stuck, ↓run_var, ↓run_mov, ↓run_has, ↓run_bor, ↓run_put, ↓run_opt, ↓run_callP, ↓run_callIO, ↓run_not, ↓run_mB, ↓look_some, ↓opt_some, ↓optP_some, ↓optIO_some, ↓flow_next, ↓flow_brk, ↓flow_cnt, ↓flow_ret, ↓pick_true, ↓pick_false, cond_and, run_add_int, run_sub_int, run_mul_int, run_fdiv_int, run_mod_int, run_pow_int, run_neg_int, run_idx_tup, run_idx_lst, run_lt_int, run_le_int, run_eq_int, run_tup, run_lstV, run_len_lst, run_len_tup, run_abs_int, run_int_int, run_list_lst, run_list_tup, run_tuple_lst, run_tuple_tup, run_slc_lst, run_slc_tup, run_slc_rol, run_max2, run_min2, run_isN, Option.toList,  run_if, run_ret, run_bind, run_fz, run_var, run_mov, run_has, run_bor, run_put, run_opt, run_callP, run_callIO, run_not, run_mB, look_some, opt_some, optP_some, optIO_some, atI_0, atI_1, atI_2, atI_3, atI_4, ds_of, flat_lst, fz_lst, fz_d, flat_d, lstOf_lst, own_lst, ev, evs, IR.pv, valOf, ev1, ev2, ev2T, chnM, iteM, slcM, endOf, seqD, vBin, vCmp, andV, orV, andT, orT, vTru, putTg, putTgs, IE.isNop, fin, finIO, slot0, startE, List.length_cons, List.length_nil, List.length_set, List.map_cons, List.map_nil, List.cons_append, List.nil_append, List.append_nil, List.getElem?_cons_zero, List.getElem?_cons_succ, List.set_cons_zero, List.set_cons_succ, List.replicate, fzs_d, OV.ds, OV.flat, OV.fz, OV.fzs, lstOf, Option.map_some, Bool.decide_eq_true, if_true, if_false, Bool.false_eq_true, Bool.not_true, Bool.not_false, decide_true, decide_false, wipeE, backE, hideL, stoF_0, stoF_1, stoF_2, stoF_3, stoF_4, finX, finP, sl_0, sl_1, sl_2, sl_3, sl_4, sl_5, sl_6, sl_7, sl_8, sl_9, sl_10, sl_11, sl_12, sl_13, sl_14, sl_15, sl_16, sl_17, sl_18, sl_19, sl_20, sl_21, sl_22, sl_23, sl_24, sl_25, sl_26, sl_27, sl_28, sl_29, sl_30, sl_31, sl_32, true_and, and_true, Nat.sub_self, Nat.reduceAdd, Nat.reduceSub, Nat.reduceLT, Nat.reduceLeDiff, Nat.zero_lt_succ, Nat.zero_le]
theorem opposite_ok (k : Nat) (a b : Int) : E (k + 1) 3 none [.tup [.int a, .int b]] = some (.ok (.d (.tup [.int (-a), .int (-b)])), none) := by
  refine ecall_P (d := i3.d) rfl rfl ?_
  unfold i3 b3
  simp -implicitDefEqProofs only [↓run_cons, ↓run_nil, ↓run_asg, ↓run_set, ↓run_par, ↓run_exp, ↓run_retS, ↓run_retN, ↓run_pass, ↓run_brk, ↓run_cnt, ↓run_iff, ↓run_sto, ↓run_lop, ↓run_ret, ↓run_bind, ↓run_fz, ↓run_stuck, ↓run_var, ↓run_mov, ↓run_has, ↓run_bor, ↓run_put, ↓run_opt, ↓run_callP, ↓run_callIO, ↓run_not, ↓run_mB, ↓look_some, ↓opt_some, ↓optP_some, ↓optIO_some, ↓flow_next, ↓flow_brk, ↓flow_cnt, ↓flow_ret, ↓pick_true, ↓pick_false, cond_and, run_add_int, run_sub_int, run_mul_int, run_fdiv_int, run_mod_int, run_pow_int, run_neg_int, run_idx_tup, run_idx_lst, run_lt_int, run_le_int, run_eq_int, run_tup, run_lstV, run_len_lst, run_len_tup, run_abs_int, run_int_int, run_list_lst, run_list_tup, run_tuple_lst, run_tuple_tup, run_slc_lst, run_slc_tup, run_slc_rol, run_max2, run_min2, run_isN, Option.toList,  run_if, run_ret, run_bind, run_fz, run_var, run_mov, run_has, run_bor, run_put, run_opt, run_callP, run_callIO, run_not, run_mB, look_some, opt_some, optP_some, optIO_some, atI_0, atI_1, atI_2, atI_3, atI_4, ds_of, flat_lst, fz_lst, fz_d, flat_d, lstOf_lst, own_lst, ev, evs, IR.pv, valOf, ev1, ev2, ev2T, chnM, iteM, slcM, endOf, seqD, vBin, vCmp, andV, orV, andT, orT, vTru, putTg, putTgs, IE.isNop, fin, finIO, slot0, startE, List.length_cons, List.length_nil, List.length_set, List.map_cons, List.map_nil, List.cons_append, List.nil_append, List.append_nil, List.getElem?_cons_zero, List.getElem?_cons_succ, List.set_cons_zero, List.set_cons_succ, List.replicate, fzs_d, OV.ds, OV.flat, OV.fz, OV.fzs, lstOf, Option.map_some, Bool.decide_eq_true, if_true, if_false, Bool.false_eq_true, Bool.not_true, Bool.not_false, decide_true, decide_false, wipeE, backE, hideL, stoF_0, stoF_1, stoF_2, stoF_3, stoF_4, finX, finP, sl_0, sl_1, sl_2, sl_3, sl_4, sl_5, sl_6, sl_7, sl_8, sl_9, sl_10, sl_11, sl_12, sl_13, sl_14, sl_15, sl_16, sl_17, sl_18, sl_19, sl_20, sl_21, sl_22, sl_23, sl_24, sl_25, sl_26, sl_27, sl_28, sl_29, sl_30, sl_31, sl_32, true_and, and_true, Nat.sub_self, Nat.reduceAdd, Nat.reduceSub, Nat.reduceLT, Nat.reduceLeDiff, Nat.zero_lt_succ, Nat.zero_le]
theorem turned_ok (k : Nat) (a b : Int) : E (k + 1) 8 none [.tup [.int a, .int b]] = some (.ok (.d (.tup [.int (-b), .int a])), none) := by
  refine ecall_P (d := i8.d) rfl rfl ?_
  unfold i8 b8
  simp -implicitDefEqProofs only [↓run_cons, ↓run_nil, ↓run_asg, ↓run_set, ↓run_par, ↓run_exp, ↓run_retS, ↓run_retN, ↓run_pass, ↓run_brk, ↓run_cnt, ↓run_iff, ↓run_sto, ↓run_lop, ↓run_ret, ↓run_bind, ↓run_fz, ↓run_stuck, ↓run_var, ↓run_mov, ↓run_has, ↓run_bor, ↓run_put, ↓run_opt, ↓run_callP, ↓run_callIO, ↓run_not, ↓run_mB, ↓look_some, ↓opt_some, ↓optP_some, ↓optIO_some, ↓flow_next, ↓flow_brk, ↓flow_cnt, ↓flow_ret, ↓pick_true, ↓pick_false, cond_and, run_add_int, run_sub_int, run_mul_int, run_fdiv_int, run_mod_int, run_pow_int, run_neg_int, run_idx_tup, run_idx_lst, run_lt_int, run_le_int, run_eq_int, run_tup, run_lstV, run_len_lst, run_len_tup, run_abs_int, run_int_int, run_list_lst, run_list_tup, run_tuple_lst, run_tuple_tup, run_slc_lst, run_slc_tup, run_slc_rol, run_max2, run_min2, run_isN, Option.toList,  run_if, run_ret, run_bind, run_fz, run_var, run_mov, run_has, run_bor, run_put, run_opt, run_callP, run_callIO, run_not, run_mB, look_some, opt_some, optP_some, optIO_some, atI_0, atI_1, atI_2, atI_3, atI_4, ds_of, flat_lst, fz_lst, fz_d, flat_d, lstOf_lst, own_lst, ev, evs, IR.pv, valOf, ev1, ev2, ev2T, chnM, iteM, slcM, endOf, seqD, vBin, vCmp, andV, orV, andT, orT, vTru, putTg, putTgs, IE.isNop, fin, finIO, slot0, startE, List.length_cons, List.length_nil, List.length_set, List.map_cons, List.map_nil, List.cons_append, List.nil_append, List.append_nil, List.getElem?_cons_zero, List.getElem?_cons_succ, List.set_cons_zero, List.set_cons_succ, List.replicate, fzs_d, OV.ds, OV.flat, OV.fz, OV.fzs, lstOf, Option.map_some, Bool.decide_eq_true, if_true, if_false, Bool.false_eq_true, Bool.not_true, Bool.not_false, decide_true, decide_false, wipeE, backE, hideL, stoF_0, stoF_1, stoF_2, stoF_3, stoF_4, finX, finP, sl_0, sl_1, sl_2, sl_3, sl_4, sl_5, sl_6, sl_7, sl_8, sl_9, sl_10, sl_11, sl_12, sl_13, sl_14, sl_15, sl_16, sl_17, sl_18, sl_19, sl_20, sl_21, sl_22, sl_23, sl_24, sl_25, sl_26, sl_27, sl_28, sl_29, sl_30, sl_31, sl_32, true_and, and_true, Nat.sub_self, Nat.reduceAdd, Nat.reduceSub, Nat.reduceLT, Nat.reduceLeDiff, Nat.zero_lt_succ, Nat.zero_le]
theorem dot_ok (k : Nat) (a b c d : Int) (h1 : mulOk a c = true) (h2 : mulOk b d = true) : E (k + 1) 4 none [.tup [.int a, .int b], .tup [.int c, .int d]] = some (.ok (.d (.int (a * c + b * d))), none) := by
  refine ecall_P (d := i4.d) rfl rfl ?_
  unfold i4 b4
  simp -implicitDefEqProofs only [↓run_cons, ↓run_nil, ↓run_asg, ↓run_set, ↓run_par, ↓run_exp, ↓run_retS, ↓run_retN, ↓run_pass, ↓run_brk, ↓run_cnt, ↓run_iff, ↓run_sto, ↓run_lop, ↓run_ret, ↓run_bind, ↓run_fz, ↓run_stuck, ↓run_var, ↓run_mov, ↓run_has, ↓run_bor, ↓run_put, ↓run_opt, ↓run_callP, ↓run_callIO, ↓run_not, ↓run_mB, ↓look_some, ↓opt_some, ↓optP_some, ↓optIO_some, ↓flow_next, ↓flow_brk, ↓flow_cnt, ↓flow_ret, ↓pick_true, ↓pick_false, cond_and, run_add_int, run_sub_int, run_mul_int, run_fdiv_int, run_mod_int, run_pow_int, run_neg_int, run_idx_tup, run_idx_lst, run_lt_int, run_le_int, run_eq_int, run_tup, run_lstV, run_len_lst, run_len_tup, run_abs_int, run_int_int, run_list_lst, run_list_tup, run_tuple_lst, run_tuple_tup, run_slc_lst, run_slc_tup, run_slc_rol, run_max2, run_min2, run_isN, Option.toList,  run_if, run_ret, run_bind, run_fz, run_var, run_mov, run_has, run_bor, run_put, run_opt, run_callP, run_callIO, run_not, run_mB, look_some, opt_some, optP_some, optIO_some, atI_0, atI_1, atI_2, atI_3, atI_4, ds_of, flat_lst, fz_lst, fz_d, flat_d, lstOf_lst, own_lst, ev, evs, IR.pv, valOf, ev1, ev2, ev2T, chnM, iteM, slcM, endOf, seqD, vBin, vCmp, andV, orV, andT, orT, vTru, putTg, putTgs, IE.isNop, fin, finIO, slot0, startE, List.length_cons, List.length_nil, List.length_set, List.map_cons, List.map_nil, List.cons_append, List.nil_append, List.append_nil, List.getElem?_cons_zero, List.getElem?_cons_succ, List.set_cons_zero, List.set_cons_succ, List.replicate, fzs_d, OV.ds, OV.flat, OV.fz, OV.fzs, lstOf, Option.map_some, Bool.decide_eq_true, if_true, if_false, Bool.false_eq_true, Bool.not_true, Bool.not_false, decide_true, decide_false, wipeE, backE, hideL, stoF_0, stoF_1, stoF_2, stoF_3, stoF_4, finX, finP, sl_0, sl_1, sl_2, sl_3, sl_4, sl_5, sl_6, sl_7, sl_8, sl_9, sl_10, sl_11, sl_12, sl_13, sl_14, sl_15, sl_16, sl_17, sl_18, sl_19, sl_20, sl_21, sl_22, sl_23, sl_24, sl_25, sl_26, sl_27, sl_28, sl_29, sl_30, sl_31, sl_32, true_and, and_true, Nat.sub_self, Nat.reduceAdd, Nat.reduceSub, Nat.reduceLT, Nat.reduceLeDiff, Nat.zero_lt_succ, Nat.zero_le, h1, h2]
theorem cross_ok (k : Nat) (a b c d : Int) (h1 : mulOk a d = true) (h2 : mulOk b c = true) : E (k + 1) 5 none [.tup [.int a, .int b], .tup [.int c, .int d]] = some (.ok (.d (.int (a * d - b * c))), none) := by
  refine ecall_P (d := i5.d) rfl rfl ?_
  unfold i5 b5
  simp -implicitDefEqProofs only [↓run_cons, ↓run_nil, ↓run_asg, ↓run_set, ↓run_par, ↓run_exp, ↓run_retS, ↓run_retN, ↓run_pass, ↓run_brk, ↓run_cnt, ↓run_iff, ↓run_sto, ↓run_lop, ↓run_ret, ↓run_bind, ↓run_fz, ↓run_stuck, ↓run_var, ↓run_mov, ↓run_has, ↓run_bor, ↓run_put, ↓run_opt, ↓run_callP, ↓run_callIO, ↓run_not, ↓run_mB, ↓look_some, ↓opt_some, ↓optP_some, ↓optIO_some, ↓flow_next, ↓flow_brk, ↓flow_cnt, ↓flow_ret, ↓pick_true, ↓pick_false, cond_and, run_add_int, run_sub_int, run_mul_int, run_fdiv_int, run_mod_int, run_pow_int, run_neg_int, run_idx_tup, run_idx_lst, run_lt_int, run_le_int, run_eq_int, run_tup, run_lstV, run_len_lst, run_len_tup, run_abs_int, run_int_int, run_list_lst, run_list_tup, run_tuple_lst, run_tuple_tup, run_slc_lst, run_slc_tup, run_slc_rol, run_max2, run_min2, run_isN, Option.toList,  run_if, run_ret, run_bind, run_fz, run_var, run_mov, run_has, run_bor, run_put, run_opt, run_callP, run_callIO, run_not, run_mB, look_some, opt_some, optP_some, optIO_some, atI_0, atI_1, atI_2, atI_3, atI_4, ds_of, flat_lst, fz_lst, fz_d, flat_d, lstOf_lst, own_lst, ev, evs, IR.pv, valOf, ev1, ev2, ev2T, chnM, iteM, slcM, endOf, seqD, vBin, vCmp, andV, orV, andT, orT, vTru, putTg, putTgs, IE.isNop, fin, finIO, slot0, startE, List.length_cons, List.length_nil, List.length_set, List.map_cons, List.map_nil, List.cons_append, List.nil_append, List.append_nil, List.getElem?_cons_zero, List.getElem?_cons_succ, List.set_cons_zero, List.set_cons_succ, List.replicate, fzs_d, OV.ds, OV.flat, OV.fz, OV.fzs, lstOf, Option.map_some, Bool.decide_eq_true, if_true, if_false, Bool.false_eq_true, Bool.not_true, Bool.not_false, decide_true, decide_false, wipeE, backE, hideL, stoF_0, stoF_1, stoF_2, stoF_3, stoF_4, finX, finP, sl_0, sl_1, sl_2, sl_3, sl_4, sl_5, sl_6, sl_7, sl_8, sl_9, sl_10, sl_11, sl_12, sl_13, sl_14, sl_15, sl_16, sl_17, sl_18, sl_19, sl_20, sl_21, sl_22, sl_23, sl_24, sl_25, sl_26, sl_27, sl_28, sl_29, sl_30, sl_31, sl_32, true_and, and_true, Nat.sub_self, Nat.reduceAdd, Nat.reduceSub, Nat.reduceLT, Nat.reduceLeDiff, Nat.zero_lt_succ, Nat.zero_le, h1, h2]
theorem abs_nat (a : Int) : (if a < 0 then -a else a) = (a.natAbs : Int) := by split <;> omega
theorem gcd_loop (G : GF) (N : Nat) (e : IE) (he : e = .bin .mod (.var 0) (.var 1) ∨ e = .bin .mod (.blt .int (.var 0)) (.var 1)) (m n : Nat) (hN : n < N) (Q : Fl → En → Prop) (hQ : Q .next [some (.d (.int (Nat.gcd m n : Nat))), some (.d (.int 0))]) :
    run (evS G (fun _ => none) N (.whl (.cmp .ne (.var 1) (.cst (.int 0))) [(.par 0 1 (.var 1) e)])) [some (.d (.int m)), some (.d (.int n))] Q := by
  rw [run_whlS]
  refine run_whl (I := fun ρ => ∃ a b : Nat, ρ = [some (.d (.int a)), some (.d (.int b))] ∧ Nat.gcd a b = Nat.gcd m n) (μ := fun ρ => match ρ with
    | [_, some (.d (.int b))] => b.toNat
    | _ => 0) (fun ρ ⟨a, b, e1, e2⟩ => ?_) _ _ ⟨m, n, rfl, rfl⟩ (by simpa using hN)
  subst e1
  by_cases hb : b = 0
  · subst hb
    rw [Nat.gcd_zero_right] at e2
    simp -implicitDefEqProofs only [↓run_cons, ↓run_nil, ↓run_asg, ↓run_set, ↓run_par, ↓run_exp, ↓run_retS, ↓run_retN, ↓run_pass, ↓run_brk, ↓run_cnt, ↓run_iff, ↓run_sto, ↓run_lop, ↓run_ret, ↓run_bind, ↓run_fz, ↓run_stuck, ↓run_var, ↓run_mov, ↓run_has, ↓run_bor, ↓run_put, ↓run_opt, ↓run_callP, ↓run_callIO, ↓run_not, ↓run_mB, ↓look_some, ↓opt_some, ↓optP_some, ↓optIO_some, ↓flow_next, ↓flow_brk, ↓flow_cnt, ↓flow_ret, ↓pick_true, ↓pick_false, cond_and, run_add_int, run_sub_int, run_mul_int, run_fdiv_int, run_mod_int, run_pow_int, run_neg_int, run_idx_tup, run_idx_lst, run_lt_int, run_le_int, run_eq_int, run_tup, run_lstV, run_len_lst, run_len_tup, run_abs_int, run_int_int, run_list_lst, run_list_tup, run_tuple_lst, run_tuple_tup, run_slc_lst, run_slc_tup, run_slc_rol, run_max2, run_min2, run_isN, Option.toList,  run_if, run_ret, run_bind, run_fz, run_var, run_mov, run_has, run_bor, run_put, run_opt, run_callP, run_callIO, run_not, run_mB, look_some, opt_some, optP_some, optIO_some, atI_0, atI_1, atI_2, atI_3, atI_4, ds_of, flat_lst, fz_lst, fz_d, flat_d, lstOf_lst, own_lst, ev, evs, IR.pv, valOf, ev1, ev2, ev2T, chnM, iteM, slcM, endOf, seqD, vBin, vCmp, andV, orV, andT, orT, vTru, putTg, putTgs, IE.isNop, fin, finIO, slot0, startE, List.length_cons, List.length_nil, List.length_set, List.map_cons, List.map_nil, List.cons_append, List.nil_append, List.append_nil, List.getElem?_cons_zero, List.getElem?_cons_succ, List.set_cons_zero, List.set_cons_succ, List.replicate, fzs_d, OV.ds, OV.flat, OV.fz, OV.fzs, lstOf, Option.map_some, Bool.decide_eq_true, if_true, if_false, Bool.false_eq_true, Bool.not_true, Bool.not_false, decide_true, decide_false, wipeE, backE, hideL, stoF_0, stoF_1, stoF_2, stoF_3, stoF_4, finX, finP, sl_0, sl_1, sl_2, sl_3, sl_4, sl_5, sl_6, sl_7, sl_8, sl_9, sl_10, sl_11, sl_12, sl_13, sl_14, sl_15, sl_16, sl_17, sl_18, sl_19, sl_20, sl_21, sl_22, sl_23, sl_24, sl_25, sl_26, sl_27, sl_28, sl_29, sl_30, sl_31, sl_32, true_and, and_true, Nat.sub_self, Nat.reduceAdd, Nat.reduceSub, Nat.reduceLT, Nat.reduceLeDiff, Nat.zero_lt_succ, Nat.zero_le]
    rw [e2]
    exact hQ
  · have hb' : ¬ ((b : Int) = 0) := by omega
    have hb2 : (0 : Int) < (b : Int) := by omega
    simp -implicitDefEqProofs only [↓run_cons, ↓run_nil, ↓run_asg, ↓run_set, ↓run_par, ↓run_exp, ↓run_retS, ↓run_retN, ↓run_pass, ↓run_brk, ↓run_cnt, ↓run_iff, ↓run_sto, ↓run_lop, ↓run_ret, ↓run_bind, ↓run_fz, ↓run_stuck, ↓run_var, ↓run_mov, ↓run_has, ↓run_bor, ↓run_put, ↓run_opt, ↓run_callP, ↓run_callIO, ↓run_not, ↓run_mB, ↓look_some, ↓opt_some, ↓optP_some, ↓optIO_some, ↓flow_next, ↓flow_brk, ↓flow_cnt, ↓flow_ret, ↓pick_true, ↓pick_false, cond_and, run_add_int, run_sub_int, run_mul_int, run_fdiv_int, run_mod_int, run_pow_int, run_neg_int, run_idx_tup, run_idx_lst, run_lt_int, run_le_int, run_eq_int, run_tup, run_lstV, run_len_lst, run_len_tup, run_abs_int, run_int_int, run_list_lst, run_list_tup, run_tuple_lst, run_tuple_tup, run_slc_lst, run_slc_tup, run_slc_rol, run_max2, run_min2, run_isN, Option.toList,  run_if, run_ret, run_bind, run_fz, run_var, run_mov, run_has, run_bor, run_put, run_opt, run_callP, run_callIO, run_not, run_mB, look_some, opt_some, optP_some, optIO_some, atI_0, atI_1, atI_2, atI_3, atI_4, ds_of, flat_lst, fz_lst, fz_d, flat_d, lstOf_lst, own_lst, ev, evs, IR.pv, valOf, ev1, ev2, ev2T, chnM, iteM, slcM, endOf, seqD, vBin, vCmp, andV, orV, andT, orT, vTru, putTg, putTgs, IE.isNop, fin, finIO, slot0, startE, List.length_cons, List.length_nil, List.length_set, List.map_cons, List.map_nil, List.cons_append, List.nil_append, List.append_nil, List.getElem?_cons_zero, List.getElem?_cons_succ, List.set_cons_zero, List.set_cons_succ, List.replicate, fzs_d, OV.ds, OV.flat, OV.fz, OV.fzs, lstOf, Option.map_some, Bool.decide_eq_true, if_true, if_false, Bool.false_eq_true, Bool.not_true, Bool.not_false, decide_true, decide_false, wipeE, backE, hideL, stoF_0, stoF_1, stoF_2, stoF_3, stoF_4, finX, finP, sl_0, sl_1, sl_2, sl_3, sl_4, sl_5, sl_6, sl_7, sl_8, sl_9, sl_10, sl_11, sl_12, sl_13, sl_14, sl_15, sl_16, sl_17, sl_18, sl_19, sl_20, sl_21, sl_22, sl_23, sl_24, sl_25, sl_26, sl_27, sl_28, sl_29, sl_30, sl_31, sl_32, true_and, and_true, Nat.sub_self, Nat.reduceAdd, Nat.reduceSub, Nat.reduceLT, Nat.reduceLeDiff, Nat.zero_lt_succ, Nat.zero_le, hb']
    rcases he with rfl | rfl
    · simp -implicitDefEqProofs only [↓run_cons, ↓run_nil, ↓run_asg, ↓run_set, ↓run_par, ↓run_exp, ↓run_retS, ↓run_retN, ↓run_pass, ↓run_brk, ↓run_cnt, ↓run_iff, ↓run_sto, ↓run_lop, ↓run_ret, ↓run_bind, ↓run_fz, ↓run_stuck, ↓run_var, ↓run_mov, ↓run_has, ↓run_bor, ↓run_put, ↓run_opt, ↓run_callP, ↓run_callIO, ↓run_not, ↓run_mB, ↓look_some, ↓opt_some, ↓optP_some, ↓optIO_some, ↓flow_next, ↓flow_brk, ↓flow_cnt, ↓flow_ret, ↓pick_true, ↓pick_false, cond_and, run_add_int, run_sub_int, run_mul_int, run_fdiv_int, run_mod_int, run_pow_int, run_neg_int, run_idx_tup, run_idx_lst, run_lt_int, run_le_int, run_eq_int, run_tup, run_lstV, run_len_lst, run_len_tup, run_abs_int, run_int_int, run_list_lst, run_list_tup, run_tuple_lst, run_tuple_tup, run_slc_lst, run_slc_tup, run_slc_rol, run_max2, run_min2, run_isN, Option.toList,  run_if, run_ret, run_bind, run_fz, run_var, run_mov, run_has, run_bor, run_put, run_opt, run_callP, run_callIO, run_not, run_mB, look_some, opt_some, optP_some, optIO_some, atI_0, atI_1, atI_2, atI_3, atI_4, ds_of, flat_lst, fz_lst, fz_d, flat_d, lstOf_lst, own_lst, ev, evs, IR.pv, valOf, ev1, ev2, ev2T, chnM, iteM, slcM, endOf, seqD, vBin, vCmp, andV, orV, andT, orT, vTru, putTg, putTgs, IE.isNop, fin, finIO, slot0, startE, List.length_cons, List.length_nil, List.length_set, List.map_cons, List.map_nil, List.cons_append, List.nil_append, List.append_nil, List.getElem?_cons_zero, List.getElem?_cons_succ, List.set_cons_zero, List.set_cons_succ, List.replicate, fzs_d, OV.ds, OV.flat, OV.fz, OV.fzs, lstOf, Option.map_some, Bool.decide_eq_true, if_true, if_false, Bool.false_eq_true, Bool.not_true, Bool.not_false, decide_true, decide_false, wipeE, backE, hideL, stoF_0, stoF_1, stoF_2, stoF_3, stoF_4, finX, finP, sl_0, sl_1, sl_2, sl_3, sl_4, sl_5, sl_6, sl_7, sl_8, sl_9, sl_10, sl_11, sl_12, sl_13, sl_14, sl_15, sl_16, sl_17, sl_18, sl_19, sl_20, sl_21, sl_22, sl_23, sl_24, sl_25, sl_26, sl_27, sl_28, sl_29, sl_30, sl_31, sl_32, true_and, and_true, Nat.sub_self, Nat.reduceAdd, Nat.reduceSub, Nat.reduceLT, Nat.reduceLeDiff, Nat.zero_lt_succ, Nat.zero_le]
      refine ⟨hb2, ⟨b, a % b, ?_, ?_⟩, ?_⟩
      · rw [Int.natCast_emod]
      · rw [← e2, Nat.gcd_comm a b, Nat.gcd_rec b a, Nat.gcd_comm]
      · rw [← Int.natCast_emod, Int.toNat_natCast, Int.toNat_natCast]
        exact Nat.mod_lt _ (Nat.pos_of_ne_zero hb)
    · simp -implicitDefEqProofs only [↓run_cons, ↓run_nil, ↓run_asg, ↓run_set, ↓run_par, ↓run_exp, ↓run_retS, ↓run_retN, ↓run_pass, ↓run_brk, ↓run_cnt, ↓run_iff, ↓run_sto, ↓run_lop, ↓run_ret, ↓run_bind, ↓run_fz, ↓run_stuck, ↓run_var, ↓run_mov, ↓run_has, ↓run_bor, ↓run_put, ↓run_opt, ↓run_callP, ↓run_callIO, ↓run_not, ↓run_mB, ↓look_some, ↓opt_some, ↓optP_some, ↓optIO_some, ↓flow_next, ↓flow_brk, ↓flow_cnt, ↓flow_ret, ↓pick_true, ↓pick_false, cond_and, run_add_int, run_sub_int, run_mul_int, run_fdiv_int, run_mod_int, run_pow_int, run_neg_int, run_idx_tup, run_idx_lst, run_lt_int, run_le_int, run_eq_int, run_tup, run_lstV, run_len_lst, run_len_tup, run_abs_int, run_int_int, run_list_lst, run_list_tup, run_tuple_lst, run_tuple_tup, run_slc_lst, run_slc_tup, run_slc_rol, run_max2, run_min2, run_isN, Option.toList,  run_if, run_ret, run_bind, run_fz, run_var, run_mov, run_has, run_bor, run_put, run_opt, run_callP, run_callIO, run_not, run_mB, look_some, opt_some, optP_some, optIO_some, atI_0, atI_1, atI_2, atI_3, atI_4, ds_of, flat_lst, fz_lst, fz_d, flat_d, lstOf_lst, own_lst, ev, evs, IR.pv, valOf, ev1, ev2, ev2T, chnM, iteM, slcM, endOf, seqD, vBin, vCmp, andV, orV, andT, orT, vTru, putTg, putTgs, IE.isNop, fin, finIO, slot0, startE, List.length_cons, List.length_nil, List.length_set, List.map_cons, List.map_nil, List.cons_append, List.nil_append, List.append_nil, List.getElem?_cons_zero, List.getElem?_cons_succ, List.set_cons_zero, List.set_cons_succ, List.replicate, fzs_d, OV.ds, OV.flat, OV.fz, OV.fzs, lstOf, Option.map_some, Bool.decide_eq_true, if_true, if_false, Bool.false_eq_true, Bool.not_true, Bool.not_false, decide_true, decide_false, wipeE, backE, hideL, stoF_0, stoF_1, stoF_2, stoF_3, stoF_4, finX, finP, sl_0, sl_1, sl_2, sl_3, sl_4, sl_5, sl_6, sl_7, sl_8, sl_9, sl_10, sl_11, sl_12, sl_13, sl_14, sl_15, sl_16, sl_17, sl_18, sl_19, sl_20, sl_21, sl_22, sl_23, sl_24, sl_25, sl_26, sl_27, sl_28, sl_29, sl_30, sl_31, sl_32, true_and, and_true, Nat.sub_self, Nat.reduceAdd, Nat.reduceSub, Nat.reduceLT, Nat.reduceLeDiff, Nat.zero_lt_succ, Nat.zero_le]
      refine ⟨hb2, ⟨b, a % b, ?_, ?_⟩, ?_⟩
      · rw [Int.natCast_emod]
      · rw [← e2, Nat.gcd_comm a b, Nat.gcd_rec b a, Nat.gcd_comm]
      · rw [← Int.natCast_emod, Int.toNat_natCast, Int.toNat_natCast]
        exact Nat.mod_lt _ (Nat.pos_of_ne_zero hb)
theorem divisor_ok (k : Nat) (a b : Int) (hb : Sz 300 b) : E (k + 1) 6 none [.int a, .int b] = some (.ok (.d (.int (Int.gcd a b : Nat))), none) := by
  refine ecall_P (d := i6.d) rfl rfl ?_
  suffices h : ∀ R : Fl → En → Prop, (∀ ρ, R (.ret (.d (.int (Int.gcd a b : Nat)))) ρ) → run (evSs (E k) (fun _ => none) NN i6.d.body) (startE 2 ([.int a, .int b].map .d)) R from h _ fun ρ => rfl
  intro R hR
  unfold i6 b6
  refine seq_run fun K k1 k2 => ?_
  simp -implicitDefEqProofs only [↓run_cons, ↓run_nil, ↓run_asg, ↓run_set, ↓run_par, ↓run_exp, ↓run_retS, ↓run_retN, ↓run_pass, ↓run_brk, ↓run_cnt, ↓run_iff, ↓run_sto, ↓run_lop, ↓run_ret, ↓run_bind, ↓run_fz, ↓run_stuck, ↓run_var, ↓run_mov, ↓run_has, ↓run_bor, ↓run_put, ↓run_opt, ↓run_callP, ↓run_callIO, ↓run_not, ↓run_mB, ↓look_some, ↓opt_some, ↓optP_some, ↓optIO_some, ↓flow_next, ↓flow_brk, ↓flow_cnt, ↓flow_ret, ↓pick_true, ↓pick_false, cond_and, run_add_int, run_sub_int, run_mul_int, run_fdiv_int, run_mod_int, run_pow_int, run_neg_int, run_idx_tup, run_idx_lst, run_lt_int, run_le_int, run_eq_int, run_tup, run_lstV, run_len_lst, run_len_tup, run_abs_int, run_int_int, run_list_lst, run_list_tup, run_tuple_lst, run_tuple_tup, run_slc_lst, run_slc_tup, run_slc_rol, run_max2, run_min2, run_isN, Option.toList,  run_if, run_ret, run_bind, run_fz, run_var, run_mov, run_has, run_bor, run_put, run_opt, run_callP, run_callIO, run_not, run_mB, look_some, opt_some, optP_some, optIO_some, atI_0, atI_1, atI_2, atI_3, atI_4, ds_of, flat_lst, fz_lst, fz_d, flat_d, lstOf_lst, own_lst, ev, evs, IR.pv, valOf, ev1, ev2, ev2T, chnM, iteM, slcM, endOf, seqD, vBin, vCmp, andV, orV, andT, orT, vTru, putTg, putTgs, IE.isNop, fin, finIO, slot0, startE, List.length_cons, List.length_nil, List.length_set, List.map_cons, List.map_nil, List.cons_append, List.nil_append, List.append_nil, List.getElem?_cons_zero, List.getElem?_cons_succ, List.set_cons_zero, List.set_cons_succ, List.replicate, fzs_d, OV.ds, OV.flat, OV.fz, OV.fzs, lstOf, Option.map_some, Bool.decide_eq_true, if_true, if_false, Bool.false_eq_true, Bool.not_true, Bool.not_false, decide_true, decide_false, wipeE, backE, hideL, stoF_0, stoF_1, stoF_2, stoF_3, stoF_4, finX, finP, sl_0, sl_1, sl_2, sl_3, sl_4, sl_5, sl_6, sl_7, sl_8, sl_9, sl_10, sl_11, sl_12, sl_13, sl_14, sl_15, sl_16, sl_17, sl_18, sl_19, sl_20, sl_21, sl_22, sl_23, sl_24, sl_25, sl_26, sl_27, sl_28, sl_29, sl_30, sl_31, sl_32, true_and, and_true, Nat.sub_self, Nat.reduceAdd, Nat.reduceSub, Nat.reduceLT, Nat.reduceLeDiff, Nat.zero_lt_succ, Nat.zero_le, abs_nat]
  refine k1 _ ?_
  refine seq_run fun K k1 k2 => ?_
  refine gcd_loop _ _ _ (.inl rfl) _ _ (Nat.lt_of_lt_of_le hb (by unfold NN; exact Nat.pow_le_pow_right (by decide) (by decide))) _ (k1 _ ?_)
  simp -implicitDefEqProofs only [↓run_cons, ↓run_nil, ↓run_asg, ↓run_set, ↓run_par, ↓run_exp, ↓run_retS, ↓run_retN, ↓run_pass, ↓run_brk, ↓run_cnt, ↓run_iff, ↓run_sto, ↓run_lop, ↓run_ret, ↓run_bind, ↓run_fz, ↓run_stuck, ↓run_var, ↓run_mov, ↓run_has, ↓run_bor, ↓run_put, ↓run_opt, ↓run_callP, ↓run_callIO, ↓run_not, ↓run_mB, ↓look_some, ↓opt_some, ↓optP_some, ↓optIO_some, ↓flow_next, ↓flow_brk, ↓flow_cnt, ↓flow_ret, ↓pick_true, ↓pick_false, cond_and, run_add_int, run_sub_int, run_mul_int, run_fdiv_int, run_mod_int, run_pow_int, run_neg_int, run_idx_tup, run_idx_lst, run_lt_int, run_le_int, run_eq_int, run_tup, run_lstV, run_len_lst, run_len_tup, run_abs_int, run_int_int, run_list_lst, run_list_tup, run_tuple_lst, run_tuple_tup, run_slc_lst, run_slc_tup, run_slc_rol, run_max2, run_min2, run_isN, Option.toList,  run_if, run_ret, run_bind, run_fz, run_var, run_mov, run_has, run_bor, run_put, run_opt, run_callP, run_callIO, run_not, run_mB, look_some, opt_some, optP_some, optIO_some, atI_0, atI_1, atI_2, atI_3, atI_4, ds_of, flat_lst, fz_lst, fz_d, flat_d, lstOf_lst, own_lst, ev, evs, IR.pv, valOf, ev1, ev2, ev2T, chnM, iteM, slcM, endOf, seqD, vBin, vCmp, andV, orV, andT, orT, vTru, putTg, putTgs, IE.isNop, fin, finIO, slot0, startE, List.length_cons, List.length_nil, List.length_set, List.map_cons, List.map_nil, List.cons_append, List.nil_append, List.append_nil, List.getElem?_cons_zero, List.getElem?_cons_succ, List.set_cons_zero, List.set_cons_succ, List.replicate, fzs_d, OV.ds, OV.flat, OV.fz, OV.fzs, lstOf, Option.map_some, Bool.decide_eq_true, if_true, if_false, Bool.false_eq_true, Bool.not_true, Bool.not_false, decide_true, decide_false, wipeE, backE, hideL, stoF_0, stoF_1, stoF_2, stoF_3, stoF_4, finX, finP, sl_0, sl_1, sl_2, sl_3, sl_4, sl_5, sl_6, sl_7, sl_8, sl_9, sl_10, sl_11, sl_12, sl_13, sl_14, sl_15, sl_16, sl_17, sl_18, sl_19, sl_20, sl_21, sl_22, sl_23, sl_24, sl_25, sl_26, sl_27, sl_28, sl_29, sl_30, sl_31, sl_32, true_and, and_true, Nat.sub_self, Nat.reduceAdd, Nat.reduceSub, Nat.reduceLT, Nat.reduceLeDiff, Nat.zero_lt_succ, Nat.zero_le]
  exact hR _
theorem gcd_ok (k : Nat) (a b : Int) (hb : Sz 300 b) : E (k + 1) 14 none [.int a, .int b] = some (.ok (.d (.int (Int.gcd a b : Nat))), none) := by
  refine ecall_P (d := i14.d) rfl rfl ?_
  suffices h : ∀ R : Fl → En → Prop, (∀ ρ, R (.ret (.d (.int (Int.gcd a b : Nat)))) ρ) → run (evSs (E k) (fun _ => none) NN i14.d.body) (startE 2 ([.int a, .int b].map .d)) R from h _ fun ρ => rfl
  intro R hR
  unfold i14 b14
  refine seq_run fun K k1 k2 => ?_
  simp -implicitDefEqProofs only [↓run_cons, ↓run_nil, ↓run_asg, ↓run_set, ↓run_par, ↓run_exp, ↓run_retS, ↓run_retN, ↓run_pass, ↓run_brk, ↓run_cnt, ↓run_iff, ↓run_sto, ↓run_lop, ↓run_ret, ↓run_bind, ↓run_fz, ↓run_stuck, ↓run_var, ↓run_mov, ↓run_has, ↓run_bor, ↓run_put, ↓run_opt, ↓run_callP, ↓run_callIO, ↓run_not, ↓run_mB, ↓look_some, ↓opt_some, ↓optP_some, ↓optIO_some, ↓flow_next, ↓flow_brk, ↓flow_cnt, ↓flow_ret, ↓pick_true, ↓pick_false, cond_and, run_add_int, run_sub_int, run_mul_int, run_fdiv_int, run_mod_int, run_pow_int, run_neg_int, run_idx_tup, run_idx_lst, run_lt_int, run_le_int, run_eq_int, run_tup, run_lstV, run_len_lst, run_len_tup, run_abs_int, run_int_int, run_list_lst, run_list_tup, run_tuple_lst, run_tuple_tup, run_slc_lst, run_slc_tup, run_slc_rol, run_max2, run_min2, run_isN, Option.toList,  run_if, run_ret, run_bind, run_fz, run_var, run_mov, run_has, run_bor, run_put, run_opt, run_callP, run_callIO, run_not, run_mB, look_some, opt_some, optP_some, optIO_some, atI_0, atI_1, atI_2, atI_3, atI_4, ds_of, flat_lst, fz_lst, fz_d, flat_d, lstOf_lst, own_lst, ev, evs, IR.pv, valOf, ev1, ev2, ev2T, chnM, iteM, slcM, endOf, seqD, vBin, vCmp, andV, orV, andT, orT, vTru, putTg, putTgs, IE.isNop, fin, finIO, slot0, startE, List.length_cons, List.length_nil, List.length_set, List.map_cons, List.map_nil, List.cons_append, List.nil_append, List.append_nil, List.getElem?_cons_zero, List.getElem?_cons_succ, List.set_cons_zero, List.set_cons_succ, List.replicate, fzs_d, OV.ds, OV.flat, OV.fz, OV.fzs, lstOf, Option.map_some, Bool.decide_eq_true, if_true, if_false, Bool.false_eq_true, Bool.not_true, Bool.not_false, decide_true, decide_false, wipeE, backE, hideL, stoF_0, stoF_1, stoF_2, stoF_3, stoF_4, finX, finP, sl_0, sl_1, sl_2, sl_3, sl_4, sl_5, sl_6, sl_7, sl_8, sl_9, sl_10, sl_11, sl_12, sl_13, sl_14, sl_15, sl_16, sl_17, sl_18, sl_19, sl_20, sl_21, sl_22, sl_23, sl_24, sl_25, sl_26, sl_27, sl_28, sl_29, sl_30, sl_31, sl_32, true_and, and_true, Nat.sub_self, Nat.reduceAdd, Nat.reduceSub, Nat.reduceLT, Nat.reduceLeDiff, Nat.zero_lt_succ, Nat.zero_le, abs_nat]
  refine k1 _ ?_
  refine seq_run fun K k1 k2 => ?_
  refine gcd_loop _ _ _ (.inr rfl) _ _ (Nat.lt_of_lt_of_le hb (by unfold NN; exact Nat.pow_le_pow_right (by decide) (by decide))) _ (k1 _ ?_)
  simp -implicitDefEqProofs only [↓run_cons, ↓run_nil, ↓run_asg, ↓run_set, ↓run_par, ↓run_exp, ↓run_retS, ↓run_retN, ↓run_pass, ↓run_brk, ↓run_cnt, ↓run_iff, ↓run_sto, ↓run_lop, ↓run_ret, ↓run_bind, ↓run_fz, ↓run_stuck, ↓run_var, ↓run_mov, ↓run_has, ↓run_bor, ↓run_put, ↓run_opt, ↓run_callP, ↓run_callIO, ↓run_not, ↓run_mB, ↓look_some, ↓opt_some, ↓optP_some, ↓optIO_some, ↓flow_next, ↓flow_brk, ↓flow_cnt, ↓flow_ret, ↓pick_true, ↓pick_false, cond_and, run_add_int, run_sub_int, run_mul_int, run_fdiv_int, run_mod_int, run_pow_int, run_neg_int, run_idx_tup, run_idx_lst, run_lt_int, run_le_int, run_eq_int, run_tup, run_lstV, run_len_lst, run_len_tup, run_abs_int, run_int_int, run_list_lst, run_list_tup, run_tuple_lst, run_tuple_tup, run_slc_lst, run_slc_tup, run_slc_rol, run_max2, run_min2, run_isN, Option.toList,  run_if, run_ret, run_bind, run_fz, run_var, run_mov, run_has, run_bor, run_put, run_opt, run_callP, run_callIO, run_not, run_mB, look_some, opt_some, optP_some, optIO_some, atI_0, atI_1, atI_2, atI_3, atI_4, ds_of, flat_lst, fz_lst, fz_d, flat_d, lstOf_lst, own_lst, ev, evs, IR.pv, valOf, ev1, ev2, ev2T, chnM, iteM, slcM, endOf, seqD, vBin, vCmp, andV, orV, andT, orT, vTru, putTg, putTgs, IE.isNop, fin, finIO, slot0, startE, List.length_cons, List.length_nil, List.length_set, List.map_cons, List.map_nil, List.cons_append, List.nil_append, List.append_nil, List.getElem?_cons_zero, List.getElem?_cons_succ, List.set_cons_zero, List.set_cons_succ, List.replicate, fzs_d, OV.ds, OV.flat, OV.fz, OV.fzs, lstOf, Option.map_some, Bool.decide_eq_true, if_true, if_false, Bool.false_eq_true, Bool.not_true, Bool.not_false, decide_true, decide_false, wipeE, backE, hideL, stoF_0, stoF_1, stoF_2, stoF_3, stoF_4, finX, finP, sl_0, sl_1, sl_2, sl_3, sl_4, sl_5, sl_6, sl_7, sl_8, sl_9, sl_10, sl_11, sl_12, sl_13, sl_14, sl_15, sl_16, sl_17, sl_18, sl_19, sl_20, sl_21, sl_22, sl_23, sl_24, sl_25, sl_26, sl_27, sl_28, sl_29, sl_30, sl_31, sl_32, true_and, and_true, Nat.sub_self, Nat.reduceAdd, Nat.reduceSub, Nat.reduceLT, Nat.reduceLeDiff, Nat.zero_lt_succ, Nat.zero_le]
  exact hR _
def prim (a b : Int) : D := if (0 : Int) < (Int.gcd a b : Nat) then .tup [.int (a / (Int.gcd a b : Nat)), .int (b / (Int.gcd a b : Nat))] else .tup [.int a, .int b]
theorem primitive_ok (k : Nat) (a b : Int) (ha : Sz 300 a) (hb : Sz 300 b) : E (k + 2) 7 none [.tup [.int a, .int b]] = some (.ok (.d (prim a b)), none) := by
  refine ecall_P (d := i7.d) rfl rfl ?_
  unfold i7 b7
  simp -implicitDefEqProofs only [↓run_cons, ↓run_nil, ↓run_asg, ↓run_set, ↓run_par, ↓run_exp, ↓run_retS, ↓run_retN, ↓run_pass, ↓run_brk, ↓run_cnt, ↓run_iff, ↓run_sto, ↓run_lop, ↓run_ret, ↓run_bind, ↓run_fz, ↓run_stuck, ↓run_var, ↓run_mov, ↓run_has, ↓run_bor, ↓run_put, ↓run_opt, ↓run_callP, ↓run_callIO, ↓run_not, ↓run_mB, ↓look_some, ↓opt_some, ↓optP_some, ↓optIO_some, ↓flow_next, ↓flow_brk, ↓flow_cnt, ↓flow_ret, ↓pick_true, ↓pick_false, cond_and, run_add_int, run_sub_int, run_mul_int, run_fdiv_int, run_mod_int, run_pow_int, run_neg_int, run_idx_tup, run_idx_lst, run_lt_int, run_le_int, run_eq_int, run_tup, run_lstV, run_len_lst, run_len_tup, run_abs_int, run_int_int, run_list_lst, run_list_tup, run_tuple_lst, run_tuple_tup, run_slc_lst, run_slc_tup, run_slc_rol, run_max2, run_min2, run_isN, Option.toList,  run_if, run_ret, run_bind, run_fz, run_var, run_mov, run_has, run_bor, run_put, run_opt, run_callP, run_callIO, run_not, run_mB, look_some, opt_some, optP_some, optIO_some, atI_0, atI_1, atI_2, atI_3, atI_4, ds_of, flat_lst, fz_lst, fz_d, flat_d, lstOf_lst, own_lst, ev, evs, IR.pv, valOf, ev1, ev2, ev2T, chnM, iteM, slcM, endOf, seqD, vBin, vCmp, andV, orV, andT, orT, vTru, putTg, putTgs, IE.isNop, fin, finIO, slot0, startE, List.length_cons, List.length_nil, List.length_set, List.map_cons, List.map_nil, List.cons_append, List.nil_append, List.append_nil, List.getElem?_cons_zero, List.getElem?_cons_succ, List.set_cons_zero, List.set_cons_succ, List.replicate, fzs_d, OV.ds, OV.flat, OV.fz, OV.fzs, lstOf, Option.map_some, Bool.decide_eq_true, if_true, if_false, Bool.false_eq_true, Bool.not_true, Bool.not_false, decide_true, decide_false, wipeE, backE, hideL, stoF_0, stoF_1, stoF_2, stoF_3, stoF_4, finX, finP, sl_0, sl_1, sl_2, sl_3, sl_4, sl_5, sl_6, sl_7, sl_8, sl_9, sl_10, sl_11, sl_12, sl_13, sl_14, sl_15, sl_16, sl_17, sl_18, sl_19, sl_20, sl_21, sl_22, sl_23, sl_24, sl_25, sl_26, sl_27, sl_28, sl_29, sl_30, sl_31, sl_32, true_and, and_true, Nat.sub_self, Nat.reduceAdd, Nat.reduceSub, Nat.reduceLT, Nat.reduceLeDiff, Nat.zero_lt_succ, Nat.zero_le, divisor_ok k a b hb]
  refine pick_dec (fun h => ?_) (fun h => ?_)
  · have l := (ha.gcd hb).flog (by decide)
    simp -implicitDefEqProofs only [↓run_cons, ↓run_nil, ↓run_asg, ↓run_set, ↓run_par, ↓run_exp, ↓run_retS, ↓run_retN, ↓run_pass, ↓run_brk, ↓run_cnt, ↓run_iff, ↓run_sto, ↓run_lop, ↓run_ret, ↓run_bind, ↓run_fz, ↓run_stuck, ↓run_var, ↓run_mov, ↓run_has, ↓run_bor, ↓run_put, ↓run_opt, ↓run_callP, ↓run_callIO, ↓run_not, ↓run_mB, ↓look_some, ↓opt_some, ↓optP_some, ↓optIO_some, ↓flow_next, ↓flow_brk, ↓flow_cnt, ↓flow_ret, ↓pick_true, ↓pick_false, cond_and, run_add_int, run_sub_int, run_mul_int, run_fdiv_int, run_mod_int, run_pow_int, run_neg_int, run_idx_tup, run_idx_lst, run_lt_int, run_le_int, run_eq_int, run_tup, run_lstV, run_len_lst, run_len_tup, run_abs_int, run_int_int, run_list_lst, run_list_tup, run_tuple_lst, run_tuple_tup, run_slc_lst, run_slc_tup, run_slc_rol, run_max2, run_min2, run_isN, Option.toList,  run_if, run_ret, run_bind, run_fz, run_var, run_mov, run_has, run_bor, run_put, run_opt, run_callP, run_callIO, run_not, run_mB, look_some, opt_some, optP_some, optIO_some, atI_0, atI_1, atI_2, atI_3, atI_4, ds_of, flat_lst, fz_lst, fz_d, flat_d, lstOf_lst, own_lst, ev, evs, IR.pv, valOf, ev1, ev2, ev2T, chnM, iteM, slcM, endOf, seqD, vBin, vCmp, andV, orV, andT, orT, vTru, putTg, putTgs, IE.isNop, fin, finIO, slot0, startE, List.length_cons, List.length_nil, List.length_set, List.map_cons, List.map_nil, List.cons_append, List.nil_append, List.append_nil, List.getElem?_cons_zero, List.getElem?_cons_succ, List.set_cons_zero, List.set_cons_succ, List.replicate, fzs_d, OV.ds, OV.flat, OV.fz, OV.fzs, lstOf, Option.map_some, Bool.decide_eq_true, if_true, if_false, Bool.false_eq_true, Bool.not_true, Bool.not_false, decide_true, decide_false, wipeE, backE, hideL, stoF_0, stoF_1, stoF_2, stoF_3, stoF_4, finX, finP, sl_0, sl_1, sl_2, sl_3, sl_4, sl_5, sl_6, sl_7, sl_8, sl_9, sl_10, sl_11, sl_12, sl_13, sl_14, sl_15, sl_16, sl_17, sl_18, sl_19, sl_20, sl_21, sl_22, sl_23, sl_24, sl_25, sl_26, sl_27, sl_28, sl_29, sl_30, sl_31, sl_32, true_and, and_true, Nat.sub_self, Nat.reduceAdd, Nat.reduceSub, Nat.reduceLT, Nat.reduceLeDiff, Nat.zero_lt_succ, Nat.zero_le, h, l]
    unfold prim
    rw [if_pos h]
  · simp -implicitDefEqProofs only [↓run_cons, ↓run_nil, ↓run_asg, ↓run_set, ↓run_par, ↓run_exp, ↓run_retS, ↓run_retN, ↓run_pass, ↓run_brk, ↓run_cnt, ↓run_iff, ↓run_sto, ↓run_lop, ↓run_ret, ↓run_bind, ↓run_fz, ↓run_stuck, ↓run_var, ↓run_mov, ↓run_has, ↓run_bor, ↓run_put, ↓run_opt, ↓run_callP, ↓run_callIO, ↓run_not, ↓run_mB, ↓look_some, ↓opt_some, ↓optP_some, ↓optIO_some, ↓flow_next, ↓flow_brk, ↓flow_cnt, ↓flow_ret, ↓pick_true, ↓pick_false, cond_and, run_add_int, run_sub_int, run_mul_int, run_fdiv_int, run_mod_int, run_pow_int, run_neg_int, run_idx_tup, run_idx_lst, run_lt_int, run_le_int, run_eq_int, run_tup, run_lstV, run_len_lst, run_len_tup, run_abs_int, run_int_int, run_list_lst, run_list_tup, run_tuple_lst, run_tuple_tup, run_slc_lst, run_slc_tup, run_slc_rol, run_max2, run_min2, run_isN, Option.toList,  run_if, run_ret, run_bind, run_fz, run_var, run_mov, run_has, run_bor, run_put, run_opt, run_callP, run_callIO, run_not, run_mB, look_some, opt_some, optP_some, optIO_some, atI_0, atI_1, atI_2, atI_3, atI_4, ds_of, flat_lst, fz_lst, fz_d, flat_d, lstOf_lst, own_lst, ev, evs, IR.pv, valOf, ev1, ev2, ev2T, chnM, iteM, slcM, endOf, seqD, vBin, vCmp, andV, orV, andT, orT, vTru, putTg, putTgs, IE.isNop, fin, finIO, slot0, startE, List.length_cons, List.length_nil, List.length_set, List.map_cons, List.map_nil, List.cons_append, List.nil_append, List.append_nil, List.getElem?_cons_zero, List.getElem?_cons_succ, List.set_cons_zero, List.set_cons_succ, List.replicate, fzs_d, OV.ds, OV.flat, OV.fz, OV.fzs, lstOf, Option.map_some, Bool.decide_eq_true, if_true, if_false, Bool.false_eq_true, Bool.not_true, Bool.not_false, decide_true, decide_false, wipeE, backE, hideL, stoF_0, stoF_1, stoF_2, stoF_3, stoF_4, finX, finP, sl_0, sl_1, sl_2, sl_3, sl_4, sl_5, sl_6, sl_7, sl_8, sl_9, sl_10, sl_11, sl_12, sl_13, sl_14, sl_15, sl_16, sl_17, sl_18, sl_19, sl_20, sl_21, sl_22, sl_23, sl_24, sl_25, sl_26, sl_27, sl_28, sl_29, sl_30, sl_31, sl_32, true_and, and_true, Nat.sub_self, Nat.reduceAdd, Nat.reduceSub, Nat.reduceLT, Nat.reduceLeDiff, Nat.zero_lt_succ, Nat.zero_le]
    unfold prim
    rw [if_neg h]
def OddQ (n : Nat) (r b' : OV) : Prop := ∃ x, r = OV.d x ∧ Bag b' (n + 1) ∧ plain x = true ∧ (∀ a b, x = .tup [a, b] → plain a = true ∧ plain b = true) ∧ isPl x = false
def odds : List D := [.non, .int 3, .str "ab", .tup [], .tup [.int 1], .tup [.int 1, .int 2, .int 3], .lst [.int 1, .int 2], .tup [.str "1", .int 2], .tup [.bl true, .int 1], .tup [.int 1, .non], .tup [.int 0, .lst [.int 1]], .int (-1)]
def badD : D → Bool
  | .tup [a, b] => plain a && plain b && !(isWh a && isWh b)
  | x => plain x
theorem bad_of {x : D} (h : badD x = true) : plain x = true ∧ (∀ a b, x = .tup [a, b] → plain a = true ∧ plain b = true) ∧ isPl x = false := by
  unfold badD at h
  split at h
  · rename_i a b
    simp only [Bool.and_eq_true, Bool.not_eq_true'] at h
    refine ⟨rfl, fun a' b' e => ?_, h.2⟩
    injection e with e
    injection e with e1 e2
    injection e2 with e2 _
    subst e1
    subst e2
    exact h.1
  · rename_i hne
    refine ⟨h, fun a b e => absurd e (hne a b), ?_⟩
    unfold isPl
    split
    · exact absurd rfl (hne _ _)
    · rfl
theorem odd_ex (k : Nat) {b : OV} {n : Nat} (hb : Bag b n) (hn : n < 1000000000) : ∃ r b', E (k + 3) 15 (some b) [] = some (.ok r, some b') ∧ OddQ n r b' := by
  obtain ⟨r, b1, e, x, hx, rfl, hb1⟩ := any_ex (P := defsOf irs) (C := fun _ => none) (N := NN) (k := k) (f := 11) (fd := 10) rfl rfl hb hn (xs := odds) (by unfold odds; exact List.cons_ne_nil _ _) (by decide)
  have e : E (k + 2) 11 (some b) [.lst odds] = some (.ok (.d x), some b1) := e
  unfold odds at e
  refine ecall_IOx (d := i15.d) rfl rfl ?_
  unfold i15 b15
  have ho : b.own = true := by
    obtain ⟨_, _, _, _, _, rfl, _⟩ := hb.ex
    rfl
  have hall : ∀ x ∈ odds, badD x = true := by
    have : odds.all badD = true := by decide
    simpa using this
  have hbad := bad_of (hall x hx)
  simp -implicitDefEqProofs only [↓run_cons, ↓run_nil, ↓run_asg, ↓run_set, ↓run_par, ↓run_exp, ↓run_retS, ↓run_retN, ↓run_pass, ↓run_brk, ↓run_cnt, ↓run_iff, ↓run_sto, ↓run_lop, ↓run_ret, ↓run_bind, ↓run_fz, ↓run_stuck, ↓run_var, ↓run_mov, ↓run_has, ↓run_bor, ↓run_put, ↓run_opt, ↓run_callP, ↓run_callIO, ↓run_not, ↓run_mB, ↓look_some, ↓opt_some, ↓optP_some, ↓optIO_some, ↓flow_next, ↓flow_brk, ↓flow_cnt, ↓flow_ret, ↓pick_true, ↓pick_false, cond_and, run_add_int, run_sub_int, run_mul_int, run_fdiv_int, run_mod_int, run_pow_int, run_neg_int, run_idx_tup, run_idx_lst, run_lt_int, run_le_int, run_eq_int, run_tup, run_lstV, run_len_lst, run_len_tup, run_abs_int, run_int_int, run_list_lst, run_list_tup, run_tuple_lst, run_tuple_tup, run_slc_lst, run_slc_tup, run_slc_rol, run_max2, run_min2, run_isN, Option.toList,  run_if, run_ret, run_bind, run_fz, run_var, run_mov, run_has, run_bor, run_put, run_opt, run_callP, run_callIO, run_not, run_mB, look_some, opt_some, optP_some, optIO_some, atI_0, atI_1, atI_2, atI_3, atI_4, ds_of, flat_lst, fz_lst, fz_d, flat_d, lstOf_lst, own_lst, ev, evs, IR.pv, valOf, ev1, ev2, ev2T, chnM, iteM, slcM, endOf, seqD, vBin, vCmp, andV, orV, andT, orT, vTru, putTg, putTgs, IE.isNop, fin, finIO, slot0, startE, List.length_cons, List.length_nil, List.length_set, List.map_cons, List.map_nil, List.cons_append, List.nil_append, List.append_nil, List.getElem?_cons_zero, List.getElem?_cons_succ, List.set_cons_zero, List.set_cons_succ, List.replicate, fzs_d, OV.ds, OV.flat, OV.fz, OV.fzs, lstOf, Option.map_some, Bool.decide_eq_true, if_true, if_false, Bool.false_eq_true, Bool.not_true, Bool.not_false, decide_true, decide_false, wipeE, backE, hideL, stoF_0, stoF_1, stoF_2, stoF_3, stoF_4, finX, finP, sl_0, sl_1, sl_2, sl_3, sl_4, sl_5, sl_6, sl_7, sl_8, sl_9, sl_10, sl_11, sl_12, sl_13, sl_14, sl_15, sl_16, sl_17, sl_18, sl_19, sl_20, sl_21, sl_22, sl_23, sl_24, sl_25, sl_26, sl_27, sl_28, sl_29, sl_30, sl_31, sl_32, true_and, and_true, Nat.sub_self, Nat.reduceAdd, Nat.reduceSub, Nat.reduceLT, Nat.reduceLeDiff, Nat.zero_lt_succ, Nat.zero_le, ho, e]
  exact ⟨x, rfl, hb1, hbad⟩
theorem own_bag {b : OV} {n : Nat} (hb : Bag b n) : b.own = true := by
  obtain ⟨_, _, _, _, _, rfl, _⟩ := hb.ex
  rfl
theorem like1 (k : Nat) (n : Nat) (x : D) (hk : n < k) (hn : n ≤ 60) (h : D.lik n x = true) : E k 12 none [x, x] = some (.ok (.d (.bl true)), none) := like_ok (P := defsOf irs) (f := 12) rfl n x k hk hn h
/-- a place with its reach drawn -/
theorem spot2 (k : Nat) {b : OV} {n : Nat} (hb : Bag b n) (hn : n < 100000000) : ∃ (rr x y : Int) (b1 b2 : OV), E (k + 2) 11 (some b) [.lst [.int 1, .int 9, .int (10 ^ (28 : Int).toNat)]] = some (.ok (.d (.int rr)), some b1) ∧ E (k + 2) 13 (some b1) [.int rr] = some (.ok (.d (.tup [.int x, .int y])), some b2) ∧ Bag b1 (n + 1) ∧ Bag b2 (n + 3) ∧ Sz 100 x ∧ Sz 100 y := by
  obtain ⟨r, b1, e, d, hd, rfl, hb1⟩ := any_ex (P := defsOf irs) (C := fun _ => none) (N := NN) (k := k) (f := 11) (fd := 10) rfl rfl hb (by omega) (xs := [.int 1, .int 9, .int (10 ^ (28 : Int).toNat)]) (List.cons_ne_nil _ _) (by show 3 ≤ 1000000; decide)
  obtain ⟨rr, rfl, h0, hz⟩ : ∃ rr : Int, d = .int rr ∧ 0 ≤ rr ∧ Sz 100 rr := by
    simp only [List.mem_cons, List.not_mem_nil, or_false] at hd
    rcases hd with rfl | rfl | rfl
    · exact ⟨_, rfl, by decide, by unfold Sz; decide⟩
    · exact ⟨_, rfl, by decide, by unfold Sz; decide⟩
    · exact ⟨_, rfl, by decide, by unfold Sz; decide⟩
  obtain ⟨r, b2, e2, x, y, rfl, hb2, h1, h2, h3, h4⟩ := spot_ex (P := defsOf irs) (C := fun _ => none) (N := NN) (k := k) (f := 13) (fd := 10) rfl rfl hb1 (by omega) h0 (hz.mono (by decide))
  exact ⟨rr, x, y, b1, b2, e, e2, hb1, hb2, hz.of_abs h1 h2, hz.of_abs h3 h4⟩
theorem like_place (k : Nat) (x y : Int) : E (k + 3) 12 none [.tup [.int x, .int y], .tup [.int x, .int y]] = some (.ok (.d (.bl true)), none) := like1 (k + 3) 1 _ (by omega) (by decide) (by simp [D.lik])
theorem prim_shape (x y : Int) : ∃ a b, prim x y = .tup [.int a, .int b] := by
  unfold prim
  split
  · exact ⟨_, _, rfl⟩
  · exact ⟨_, _, rfl⟩
theorem prim_far (x y f : Int) (hf : 0 < f) (h : (0 : Int) < (Int.gcd x y : Nat)) : prim (x * f) (y * f) = prim x y := by
  have e : (Int.gcd (x * f) (y * f) : Int) = (Int.gcd x y : Int) * f := by
    rw [Int.gcd_mul_right]
    push_cast
    rw [Int.natAbs_of_nonneg (Int.le_of_lt hf)]
  unfold prim
  rw [e, if_pos h, if_pos (Int.mul_pos h hf), Int.mul_ediv_mul_of_pos_left _ _ hf, Int.mul_ediv_mul_of_pos_left _ _ hf]
theorem tail_ok {sc : D} {b5 b6 : OV} {n : Nat} {od : D} {x2 x3 x4 x5 x6 x8 : Option OV} {u v : Int} {Q : Fl → En → Prop} (hb5 : Bag b5 n) (e6 : E 39 15 (some b5) [] = some (.ok (.d od), some b6)) (hod1 : plain od = true)
    (hod2 : ∀ a b, od = .tup [a, b] → plain a = true ∧ plain b = true) (hod3 : isPl od = false) (hQ : Q .next [some (.d sc), some b6, x2, x3, x4, x5, x6, some (.d (.tup [.int u, .int v])), x8]) :
    IR.run (evSs (E 39) (fun _ => none) NN [(.iff (.not (.cal 12 [(.lst [(.cal 1 [(.var 7)] []), (.cal 1 [(.cio 15 1 [] [])] []), (.cal 1 [(.blt .list (.var 7))] [])]), (.lst [(.cst (.bl true)), (.cst (.bl false)), (.cst (.bl false))])] [])) [(.ret (.cst (.bl false)))] [])])
      [some (.d sc), some b5, x2, x3, x4, x5, x6, some (.d (.tup [.int u, .int v])), x8] Q := by
  have p1 := place_ok 37 (.tup [.int u, .int v]) rfl (fun a b e => by injection e with e; injection e with e1 e; injection e with e2 _; subst e1; subst e2; exact ⟨rfl, rfl⟩)
  have p1 : E 39 1 none [.tup [.int u, .int v]] = some (.ok (.d (.bl true)), none) := p1
  have p2 := place_ok 37 od hod1 hod2
  have p2 : E 39 1 none [od] = some (.ok (.d (.bl (isPl od))), none) := p2
  rw [hod3] at p2
  have p3 := place_ok 37 (.lst [.int u, .int v]) rfl (fun a b e => by cases e)
  have p3 : E 39 1 none [.lst [.int u, .int v]] = some (.ok (.d (.bl false)), none) := p3
  have L := like1 39 1 (.lst [.bl true, .bl false, .bl false]) (by decide) (by decide) (by decide)
  simp -implicitDefEqProofs only [↓run_cons, ↓run_nil, ↓run_asg, ↓run_set, ↓run_par, ↓run_exp, ↓run_retS, ↓run_retN, ↓run_pass, ↓run_brk, ↓run_cnt, ↓run_iff, ↓run_sto, ↓run_lop, ↓run_ret, ↓run_bind, ↓run_fz, ↓run_stuck, ↓run_var, ↓run_mov, ↓run_has, ↓run_bor, ↓run_put, ↓run_opt, ↓run_callP, ↓run_callIO, ↓run_not, ↓run_mB, ↓look_some, ↓opt_some, ↓optP_some, ↓optIO_some, ↓flow_next, ↓flow_brk, ↓flow_cnt, ↓flow_ret, ↓pick_true, ↓pick_false, cond_and, run_add_int, run_sub_int, run_mul_int, run_fdiv_int, run_mod_int, run_pow_int, run_neg_int, run_idx_tup, run_idx_lst, run_lt_int, run_le_int, run_eq_int, run_tup, run_lstV, run_len_lst, run_len_tup, run_abs_int, run_int_int, run_list_lst, run_list_tup, run_tuple_lst, run_tuple_tup, run_slc_lst, run_slc_tup, run_slc_rol, run_max2, run_min2, run_isN, Option.toList,  run_if, run_ret, run_bind, run_fz, run_var, run_mov, run_has, run_bor, run_put, run_opt, run_callP, run_callIO, run_not, run_mB, look_some, opt_some, optP_some, optIO_some, atI_0, atI_1, atI_2, atI_3, atI_4, ds_of, flat_lst, fz_lst, fz_d, flat_d, lstOf_lst, own_lst, ev, evs, IR.pv, valOf, ev1, ev2, ev2T, chnM, iteM, slcM, endOf, seqD, vBin, vCmp, andV, orV, andT, orT, vTru, putTg, putTgs, IE.isNop, fin, finIO, slot0, startE, List.length_cons, List.length_nil, List.length_set, List.map_cons, List.map_nil, List.cons_append, List.nil_append, List.append_nil, List.getElem?_cons_zero, List.getElem?_cons_succ, List.set_cons_zero, List.set_cons_succ, List.replicate, fzs_d, OV.ds, OV.flat, OV.fz, OV.fzs, lstOf, Option.map_some, Bool.decide_eq_true, if_true, if_false, Bool.false_eq_true, Bool.not_true, Bool.not_false, decide_true, decide_false, wipeE, backE, hideL, stoF_0, stoF_1, stoF_2, stoF_3, stoF_4, finX, finP, sl_0, sl_1, sl_2, sl_3, sl_4, sl_5, sl_6, sl_7, sl_8, sl_9, sl_10, sl_11, sl_12, sl_13, sl_14, sl_15, sl_16, sl_17, sl_18, sl_19, sl_20, sl_21, sl_22, sl_23, sl_24, sl_25, sl_26, sl_27, sl_28, sl_29, sl_30, sl_31, sl_32, true_and, and_true, Nat.sub_self, Nat.reduceAdd, Nat.reduceSub, Nat.reduceLT, Nat.reduceLeDiff, Nat.zero_lt_succ, Nat.zero_le, p1, p2, p3, own_bag hb5, e6, L]
  exact hQ
theorem law_ok (ns : List Int) : E 40 16 none [.rol (ns.map .int)] = some (.ok (.d (.bl true)), none) := by
  refine ecall_P (d := i16.d) (k := 39) rfl rfl ?_
  suffices h : ∀ R : Fl → En → Prop, (∀ ρ, R (.ret (.d (.bl true))) ρ) → IR.run (evSs (E 39) (fun _ => none) NN i16.d.body) (startE 9 ([.rol (ns.map .int)].map .d)) R from h _ fun ρ => rfl
  intro R hR
  obtain ⟨b0, e0, hb0⟩ := cells_ex (P := defsOf irs) (C := fun _ => none) (N := NN) (k := 38) (f := 9) rfl ns
  have e0 : E 39 9 none [.rol (ns.map .int)] = some (.ok b0, none) := e0
  unfold i16 b16
  refine seq_run fun K k1 k2 => ?_
  simp -implicitDefEqProofs only [↓run_cons, ↓run_nil, ↓run_asg, ↓run_set, ↓run_par, ↓run_exp, ↓run_retS, ↓run_retN, ↓run_pass, ↓run_brk, ↓run_cnt, ↓run_iff, ↓run_sto, ↓run_lop, ↓run_ret, ↓run_bind, ↓run_fz, ↓run_stuck, ↓run_var, ↓run_mov, ↓run_has, ↓run_bor, ↓run_put, ↓run_opt, ↓run_callP, ↓run_callIO, ↓run_not, ↓run_mB, ↓look_some, ↓opt_some, ↓optP_some, ↓optIO_some, ↓flow_next, ↓flow_brk, ↓flow_cnt, ↓flow_ret, ↓pick_true, ↓pick_false, cond_and, run_add_int, run_sub_int, run_mul_int, run_fdiv_int, run_mod_int, run_pow_int, run_neg_int, run_idx_tup, run_idx_lst, run_lt_int, run_le_int, run_eq_int, run_tup, run_lstV, run_len_lst, run_len_tup, run_abs_int, run_int_int, run_list_lst, run_list_tup, run_tuple_lst, run_tuple_tup, run_slc_lst, run_slc_tup, run_slc_rol, run_max2, run_min2, run_isN, Option.toList,  run_if, run_ret, run_bind, run_fz, run_var, run_mov, run_has, run_bor, run_put, run_opt, run_callP, run_callIO, run_not, run_mB, look_some, opt_some, optP_some, optIO_some, atI_0, atI_1, atI_2, atI_3, atI_4, ds_of, flat_lst, fz_lst, fz_d, flat_d, lstOf_lst, own_lst, ev, evs, IR.pv, valOf, ev1, ev2, ev2T, chnM, iteM, slcM, endOf, seqD, vBin, vCmp, andV, orV, andT, orT, vTru, putTg, putTgs, IE.isNop, fin, finIO, slot0, startE, List.length_cons, List.length_nil, List.length_set, List.map_cons, List.map_nil, List.cons_append, List.nil_append, List.append_nil, List.getElem?_cons_zero, List.getElem?_cons_succ, List.set_cons_zero, List.set_cons_succ, List.replicate, fzs_d, OV.ds, OV.flat, OV.fz, OV.fzs, lstOf, Option.map_some, Bool.decide_eq_true, if_true, if_false, Bool.false_eq_true, Bool.not_true, Bool.not_false, decide_true, decide_false, wipeE, backE, hideL, stoF_0, stoF_1, stoF_2, stoF_3, stoF_4, finX, finP, sl_0, sl_1, sl_2, sl_3, sl_4, sl_5, sl_6, sl_7, sl_8, sl_9, sl_10, sl_11, sl_12, sl_13, sl_14, sl_15, sl_16, sl_17, sl_18, sl_19, sl_20, sl_21, sl_22, sl_23, sl_24, sl_25, sl_26, sl_27, sl_28, sl_29, sl_30, sl_31, sl_32, true_and, and_true, Nat.sub_self, Nat.reduceAdd, Nat.reduceSub, Nat.reduceLT, Nat.reduceLeDiff, Nat.zero_lt_succ, Nat.zero_le, e0]
  refine k1 _ ?_
  clear k1 k2
  refine seq_run fun K k1 k2 => ?_
  clear k2
  rw [run_fr rfl]
  have r6 : vRng1 (.int 6) = M.ret (rangeD 0 6) := by rfl
  simp -implicitDefEqProofs only [↓run_cons, ↓run_nil, ↓run_asg, ↓run_set, ↓run_par, ↓run_exp, ↓run_retS, ↓run_retN, ↓run_pass, ↓run_brk, ↓run_cnt, ↓run_iff, ↓run_sto, ↓run_lop, ↓run_ret, ↓run_bind, ↓run_fz, ↓run_stuck, ↓run_var, ↓run_mov, ↓run_has, ↓run_bor, ↓run_put, ↓run_opt, ↓run_callP, ↓run_callIO, ↓run_not, ↓run_mB, ↓look_some, ↓opt_some, ↓optP_some, ↓optIO_some, ↓flow_next, ↓flow_brk, ↓flow_cnt, ↓flow_ret, ↓pick_true, ↓pick_false, cond_and, run_add_int, run_sub_int, run_mul_int, run_fdiv_int, run_mod_int, run_pow_int, run_neg_int, run_idx_tup, run_idx_lst, run_lt_int, run_le_int, run_eq_int, run_tup, run_lstV, run_len_lst, run_len_tup, run_abs_int, run_int_int, run_list_lst, run_list_tup, run_tuple_lst, run_tuple_tup, run_slc_lst, run_slc_tup, run_slc_rol, run_max2, run_min2, run_isN, Option.toList,  run_if, run_ret, run_bind, run_fz, run_var, run_mov, run_has, run_bor, run_put, run_opt, run_callP, run_callIO, run_not, run_mB, look_some, opt_some, optP_some, optIO_some, atI_0, atI_1, atI_2, atI_3, atI_4, ds_of, flat_lst, fz_lst, fz_d, flat_d, lstOf_lst, own_lst, ev, evs, IR.pv, valOf, ev1, ev2, ev2T, chnM, iteM, slcM, endOf, seqD, vBin, vCmp, andV, orV, andT, orT, vTru, putTg, putTgs, IE.isNop, fin, finIO, slot0, startE, List.length_cons, List.length_nil, List.length_set, List.map_cons, List.map_nil, List.cons_append, List.nil_append, List.append_nil, List.getElem?_cons_zero, List.getElem?_cons_succ, List.set_cons_zero, List.set_cons_succ, List.replicate, fzs_d, OV.ds, OV.flat, OV.fz, OV.fzs, lstOf, Option.map_some, Bool.decide_eq_true, if_true, if_false, Bool.false_eq_true, Bool.not_true, Bool.not_false, decide_true, decide_false, wipeE, backE, hideL, stoF_0, stoF_1, stoF_2, stoF_3, stoF_4, finX, finP, sl_0, sl_1, sl_2, sl_3, sl_4, sl_5, sl_6, sl_7, sl_8, sl_9, sl_10, sl_11, sl_12, sl_13, sl_14, sl_15, sl_16, sl_17, sl_18, sl_19, sl_20, sl_21, sl_22, sl_23, sl_24, sl_25, sl_26, sl_27, sl_28, sl_29, sl_30, sl_31, sl_32, true_and, and_true, Nat.sub_self, Nat.reduceAdd, Nat.reduceSub, Nat.reduceLT, Nat.reduceLeDiff, Nat.zero_lt_succ, Nat.zero_le, srcM, r6]
  refine run_forM (I := fun i ρ => ∃ b x2 x3 x4 x5 x6 x7 x8, Bag b (i * 10) ∧ ρ = [some (.d (.rol (ns.map .int))), some b, x2, x3, x4, x5, x6, x7, x8]) (fun i x ρ hx ⟨b, x2, x3, x4, x5, x6, x7, x8, hb, e⟩ => ?_) (fun ρ ⟨b, x2, x3, x4, x5, x6, x7, x8, hb, e⟩ => ?_) ⟨b0, none, none, none, none, none, none, none, hb0, rfl⟩
  · subst e
    have hi : i < 6 := by
      have := (List.getElem?_eq_some_iff.mp hx).1
      simpa [rangeD] using this
    clear hx e0 hb0 k1
    obtain ⟨ra, ax, ay, b1, b2, e1, e2, hb1, hb2, za, zb⟩ := spot2 37 hb (by omega)
    obtain ⟨rb, bx, by_, b3, b4, e3, e4, hb3, hb4, zc, zd⟩ := spot2 37 hb2 (by omega)
    obtain ⟨r, b5, e5, f, rfl, hb5, hf0, hf1⟩ := draw_ex (P := defsOf irs) (C := fun _ => none) (N := NN) (k := 38) (f := 10) rfl hb4 (by omega) (show (0 : Int) < 9 by decide) ((show Sz 4 9 by unfold Sz; decide).flog (by decide))
    obtain ⟨r, b6, e6, od, rfl, hb6, hod1, hod2, hod3⟩ := odd_ex 36 hb5 (by omega)
    have e1 : E 39 11 _ _ = _ := e1
    have e2 : E 39 13 _ _ = _ := e2
    have e3 : E 39 11 _ _ = _ := e3
    have e4 : E 39 13 _ _ = _ := e4
    have e5 : E 39 10 _ _ = _ := e5
    have e6 : E 39 15 _ _ = _ := e6
    rw [putTg, run_put]
    refine ⟨by show 2 < 9; decide, ?_⟩
    refine seq_run fun K k1 k2 => ?_
    clear k2
    simp -implicitDefEqProofs only [↓run_cons, ↓run_nil, ↓run_asg, ↓run_set, ↓run_par, ↓run_exp, ↓run_retS, ↓run_retN, ↓run_pass, ↓run_brk, ↓run_cnt, ↓run_iff, ↓run_sto, ↓run_lop, ↓run_ret, ↓run_bind, ↓run_fz, ↓run_stuck, ↓run_var, ↓run_mov, ↓run_has, ↓run_bor, ↓run_put, ↓run_opt, ↓run_callP, ↓run_callIO, ↓run_not, ↓run_mB, ↓look_some, ↓opt_some, ↓optP_some, ↓optIO_some, ↓flow_next, ↓flow_brk, ↓flow_cnt, ↓flow_ret, ↓pick_true, ↓pick_false, cond_and, run_add_int, run_sub_int, run_mul_int, run_fdiv_int, run_mod_int, run_pow_int, run_neg_int, run_idx_tup, run_idx_lst, run_lt_int, run_le_int, run_eq_int, run_tup, run_lstV, run_len_lst, run_len_tup, run_abs_int, run_int_int, run_list_lst, run_list_tup, run_tuple_lst, run_tuple_tup, run_slc_lst, run_slc_tup, run_slc_rol, run_max2, run_min2, run_isN, Option.toList,  run_if, run_ret, run_bind, run_fz, run_var, run_mov, run_has, run_bor, run_put, run_opt, run_callP, run_callIO, run_not, run_mB, look_some, opt_some, optP_some, optIO_some, atI_0, atI_1, atI_2, atI_3, atI_4, ds_of, flat_lst, fz_lst, fz_d, flat_d, lstOf_lst, own_lst, ev, evs, IR.pv, valOf, ev1, ev2, ev2T, chnM, iteM, slcM, endOf, seqD, vBin, vCmp, andV, orV, andT, orT, vTru, putTg, putTgs, IE.isNop, fin, finIO, slot0, startE, List.length_cons, List.length_nil, List.length_set, List.map_cons, List.map_nil, List.cons_append, List.nil_append, List.append_nil, List.getElem?_cons_zero, List.getElem?_cons_succ, List.set_cons_zero, List.set_cons_succ, List.replicate, fzs_d, OV.ds, OV.flat, OV.fz, OV.fzs, lstOf, Option.map_some, Bool.decide_eq_true, if_true, if_false, Bool.false_eq_true, Bool.not_true, Bool.not_false, decide_true, decide_false, wipeE, backE, hideL, stoF_0, stoF_1, stoF_2, stoF_3, stoF_4, finX, finP, sl_0, sl_1, sl_2, sl_3, sl_4, sl_5, sl_6, sl_7, sl_8, sl_9, sl_10, sl_11, sl_12, sl_13, sl_14, sl_15, sl_16, sl_17, sl_18, sl_19, sl_20, sl_21, sl_22, sl_23, sl_24, sl_25, sl_26, sl_27, sl_28, sl_29, sl_30, sl_31, sl_32, true_and, and_true, Nat.sub_self, Nat.reduceAdd, Nat.reduceSub, Nat.reduceLT, Nat.reduceLeDiff, Nat.zero_lt_succ, Nat.zero_le, own_bag hb, own_bag hb1, own_bag hb2, own_bag hb3, e1, e2, e3, e4]
    refine ⟨⟨by decide, by decide, by decide⟩, ⟨by decide, by decide, by decide⟩, k1 _ ?_⟩
    clear k1 e1 e2 e3 e4
    refine seq_run fun K k1 k2 => ?_
    clear k2
    have m1 := mulOk_sz za zc (by decide)
    have m2 := mulOk_sz zb zd (by decide)
    have m3 := mulOk_sz za zd (by decide)
    have m4 := mulOk_sz zb zc (by decide)
    simp -implicitDefEqProofs only [↓run_cons, ↓run_nil, ↓run_asg, ↓run_set, ↓run_par, ↓run_exp, ↓run_retS, ↓run_retN, ↓run_pass, ↓run_brk, ↓run_cnt, ↓run_iff, ↓run_sto, ↓run_lop, ↓run_ret, ↓run_bind, ↓run_fz, ↓run_stuck, ↓run_var, ↓run_mov, ↓run_has, ↓run_bor, ↓run_put, ↓run_opt, ↓run_callP, ↓run_callIO, ↓run_not, ↓run_mB, ↓look_some, ↓opt_some, ↓optP_some, ↓optIO_some, ↓flow_next, ↓flow_brk, ↓flow_cnt, ↓flow_ret, ↓pick_true, ↓pick_false, cond_and, run_add_int, run_sub_int, run_mul_int, run_fdiv_int, run_mod_int, run_pow_int, run_neg_int, run_idx_tup, run_idx_lst, run_lt_int, run_le_int, run_eq_int, run_tup, run_lstV, run_len_lst, run_len_tup, run_abs_int, run_int_int, run_list_lst, run_list_tup, run_tuple_lst, run_tuple_tup, run_slc_lst, run_slc_tup, run_slc_rol, run_max2, run_min2, run_isN, Option.toList,  run_if, run_ret, run_bind, run_fz, run_var, run_mov, run_has, run_bor, run_put, run_opt, run_callP, run_callIO, run_not, run_mB, look_some, opt_some, optP_some, optIO_some, atI_0, atI_1, atI_2, atI_3, atI_4, ds_of, flat_lst, fz_lst, fz_d, flat_d, lstOf_lst, own_lst, ev, evs, IR.pv, valOf, ev1, ev2, ev2T, chnM, iteM, slcM, endOf, seqD, vBin, vCmp, andV, orV, andT, orT, vTru, putTg, putTgs, IE.isNop, fin, finIO, slot0, startE, List.length_cons, List.length_nil, List.length_set, List.map_cons, List.map_nil, List.cons_append, List.nil_append, List.append_nil, List.getElem?_cons_zero, List.getElem?_cons_succ, List.set_cons_zero, List.set_cons_succ, List.replicate, fzs_d, OV.ds, OV.flat, OV.fz, OV.fzs, lstOf, Option.map_some, Bool.decide_eq_true, if_true, if_false, Bool.false_eq_true, Bool.not_true, Bool.not_false, decide_true, decide_false, wipeE, backE, hideL, stoF_0, stoF_1, stoF_2, stoF_3, stoF_4, finX, finP, sl_0, sl_1, sl_2, sl_3, sl_4, sl_5, sl_6, sl_7, sl_8, sl_9, sl_10, sl_11, sl_12, sl_13, sl_14, sl_15, sl_16, sl_17, sl_18, sl_19, sl_20, sl_21, sl_22, sl_23, sl_24, sl_25, sl_26, sl_27, sl_28, sl_29, sl_30, sl_31, sl_32, true_and, and_true, Nat.sub_self, Nat.reduceAdd, Nat.reduceSub, Nat.reduceLT, Nat.reduceLeDiff, Nat.zero_lt_succ, Nat.zero_le, added_ok 38, opposite_ok 38, turned_ok 38, dot_ok 38 _ _ _ _ m1 m2, cross_ok 38 _ _ _ _ m3 m4]
    refine k1 _ ?_
    clear k1
    refine seq_run fun K k1 k2 => ?_
    clear k2
    simp -implicitDefEqProofs only [↓run_cons, ↓run_nil, ↓run_asg, ↓run_set, ↓run_par, ↓run_exp, ↓run_retS, ↓run_retN, ↓run_pass, ↓run_brk, ↓run_cnt, ↓run_iff, ↓run_sto, ↓run_lop, ↓run_ret, ↓run_bind, ↓run_fz, ↓run_stuck, ↓run_var, ↓run_mov, ↓run_has, ↓run_bor, ↓run_put, ↓run_opt, ↓run_callP, ↓run_callIO, ↓run_not, ↓run_mB, ↓look_some, ↓opt_some, ↓optP_some, ↓optIO_some, ↓flow_next, ↓flow_brk, ↓flow_cnt, ↓flow_ret, ↓pick_true, ↓pick_false, cond_and, run_add_int, run_sub_int, run_mul_int, run_fdiv_int, run_mod_int, run_pow_int, run_neg_int, run_idx_tup, run_idx_lst, run_lt_int, run_le_int, run_eq_int, run_tup, run_lstV, run_len_lst, run_len_tup, run_abs_int, run_int_int, run_list_lst, run_list_tup, run_tuple_lst, run_tuple_tup, run_slc_lst, run_slc_tup, run_slc_rol, run_max2, run_min2, run_isN, Option.toList,  run_if, run_ret, run_bind, run_fz, run_var, run_mov, run_has, run_bor, run_put, run_opt, run_callP, run_callIO, run_not, run_mB, look_some, opt_some, optP_some, optIO_some, atI_0, atI_1, atI_2, atI_3, atI_4, ds_of, flat_lst, fz_lst, fz_d, flat_d, lstOf_lst, own_lst, ev, evs, IR.pv, valOf, ev1, ev2, ev2T, chnM, iteM, slcM, endOf, seqD, vBin, vCmp, andV, orV, andT, orT, vTru, putTg, putTgs, IE.isNop, fin, finIO, slot0, startE, List.length_cons, List.length_nil, List.length_set, List.map_cons, List.map_nil, List.cons_append, List.nil_append, List.append_nil, List.getElem?_cons_zero, List.getElem?_cons_succ, List.set_cons_zero, List.set_cons_succ, List.replicate, fzs_d, OV.ds, OV.flat, OV.fz, OV.fzs, lstOf, Option.map_some, Bool.decide_eq_true, if_true, if_false, Bool.false_eq_true, Bool.not_true, Bool.not_false, decide_true, decide_false, wipeE, backE, hideL, stoF_0, stoF_1, stoF_2, stoF_3, stoF_4, finX, finP, sl_0, sl_1, sl_2, sl_3, sl_4, sl_5, sl_6, sl_7, sl_8, sl_9, sl_10, sl_11, sl_12, sl_13, sl_14, sl_15, sl_16, sl_17, sl_18, sl_19, sl_20, sl_21, sl_22, sl_23, sl_24, sl_25, sl_26, sl_27, sl_28, sl_29, sl_30, sl_31, sl_32, true_and, and_true, Nat.sub_self, Nat.reduceAdd, Nat.reduceSub, Nat.reduceLT, Nat.reduceLeDiff, Nat.zero_lt_succ, Nat.zero_le, m1, m2, m3, m4]
    refine k1 _ ?_
    clear k1
    refine seq_run fun K k1 k2 => ?_
    clear k2
    have L1 := like1 39 2 (.lst [.tup [.int (ax + bx), .int (ay + by_)], .tup [.int (-ax), .int (-ay)], .int (ax * bx + ay * by_), .int (ax * by_ - ay * bx), .tup [.int (-ay), .int ax]]) (by decide) (by decide) (by simp [D.lik])
    simp -implicitDefEqProofs only [↓run_cons, ↓run_nil, ↓run_asg, ↓run_set, ↓run_par, ↓run_exp, ↓run_retS, ↓run_retN, ↓run_pass, ↓run_brk, ↓run_cnt, ↓run_iff, ↓run_sto, ↓run_lop, ↓run_ret, ↓run_bind, ↓run_fz, ↓run_stuck, ↓run_var, ↓run_mov, ↓run_has, ↓run_bor, ↓run_put, ↓run_opt, ↓run_callP, ↓run_callIO, ↓run_not, ↓run_mB, ↓look_some, ↓opt_some, ↓optP_some, ↓optIO_some, ↓flow_next, ↓flow_brk, ↓flow_cnt, ↓flow_ret, ↓pick_true, ↓pick_false, cond_and, run_add_int, run_sub_int, run_mul_int, run_fdiv_int, run_mod_int, run_pow_int, run_neg_int, run_idx_tup, run_idx_lst, run_lt_int, run_le_int, run_eq_int, run_tup, run_lstV, run_len_lst, run_len_tup, run_abs_int, run_int_int, run_list_lst, run_list_tup, run_tuple_lst, run_tuple_tup, run_slc_lst, run_slc_tup, run_slc_rol, run_max2, run_min2, run_isN, Option.toList,  run_if, run_ret, run_bind, run_fz, run_var, run_mov, run_has, run_bor, run_put, run_opt, run_callP, run_callIO, run_not, run_mB, look_some, opt_some, optP_some, optIO_some, atI_0, atI_1, atI_2, atI_3, atI_4, ds_of, flat_lst, fz_lst, fz_d, flat_d, lstOf_lst, own_lst, ev, evs, IR.pv, valOf, ev1, ev2, ev2T, chnM, iteM, slcM, endOf, seqD, vBin, vCmp, andV, orV, andT, orT, vTru, putTg, putTgs, IE.isNop, fin, finIO, slot0, startE, List.length_cons, List.length_nil, List.length_set, List.map_cons, List.map_nil, List.cons_append, List.nil_append, List.append_nil, List.getElem?_cons_zero, List.getElem?_cons_succ, List.set_cons_zero, List.set_cons_succ, List.replicate, fzs_d, OV.ds, OV.flat, OV.fz, OV.fzs, lstOf, Option.map_some, Bool.decide_eq_true, if_true, if_false, Bool.false_eq_true, Bool.not_true, Bool.not_false, decide_true, decide_false, wipeE, backE, hideL, stoF_0, stoF_1, stoF_2, stoF_3, stoF_4, finX, finP, sl_0, sl_1, sl_2, sl_3, sl_4, sl_5, sl_6, sl_7, sl_8, sl_9, sl_10, sl_11, sl_12, sl_13, sl_14, sl_15, sl_16, sl_17, sl_18, sl_19, sl_20, sl_21, sl_22, sl_23, sl_24, sl_25, sl_26, sl_27, sl_28, sl_29, sl_30, sl_31, sl_32, true_and, and_true, Nat.sub_self, Nat.reduceAdd, Nat.reduceSub, Nat.reduceLT, Nat.reduceLeDiff, Nat.zero_lt_succ, Nat.zero_le, vAdd, L1]
    refine k1 _ ?_
    clear k1 L1 m1 m2 m3 m4
    refine seq_run fun K k1 k2 => ?_
    clear k2
    have zb300 := zb.mono (show 100 ≤ 300 by decide)
    have za300 := za.mono (show 100 ≤ 300 by decide)
    simp -implicitDefEqProofs only [↓run_cons, ↓run_nil, ↓run_asg, ↓run_set, ↓run_par, ↓run_exp, ↓run_retS, ↓run_retN, ↓run_pass, ↓run_brk, ↓run_cnt, ↓run_iff, ↓run_sto, ↓run_lop, ↓run_ret, ↓run_bind, ↓run_fz, ↓run_stuck, ↓run_var, ↓run_mov, ↓run_has, ↓run_bor, ↓run_put, ↓run_opt, ↓run_callP, ↓run_callIO, ↓run_not, ↓run_mB, ↓look_some, ↓opt_some, ↓optP_some, ↓optIO_some, ↓flow_next, ↓flow_brk, ↓flow_cnt, ↓flow_ret, ↓pick_true, ↓pick_false, cond_and, run_add_int, run_sub_int, run_mul_int, run_fdiv_int, run_mod_int, run_pow_int, run_neg_int, run_idx_tup, run_idx_lst, run_lt_int, run_le_int, run_eq_int, run_tup, run_lstV, run_len_lst, run_len_tup, run_abs_int, run_int_int, run_list_lst, run_list_tup, run_tuple_lst, run_tuple_tup, run_slc_lst, run_slc_tup, run_slc_rol, run_max2, run_min2, run_isN, Option.toList,  run_if, run_ret, run_bind, run_fz, run_var, run_mov, run_has, run_bor, run_put, run_opt, run_callP, run_callIO, run_not, run_mB, look_some, opt_some, optP_some, optIO_some, atI_0, atI_1, atI_2, atI_3, atI_4, ds_of, flat_lst, fz_lst, fz_d, flat_d, lstOf_lst, own_lst, ev, evs, IR.pv, valOf, ev1, ev2, ev2T, chnM, iteM, slcM, endOf, seqD, vBin, vCmp, andV, orV, andT, orT, vTru, putTg, putTgs, IE.isNop, fin, finIO, slot0, startE, List.length_cons, List.length_nil, List.length_set, List.map_cons, List.map_nil, List.cons_append, List.nil_append, List.append_nil, List.getElem?_cons_zero, List.getElem?_cons_succ, List.set_cons_zero, List.set_cons_succ, List.replicate, fzs_d, OV.ds, OV.flat, OV.fz, OV.fzs, lstOf, Option.map_some, Bool.decide_eq_true, if_true, if_false, Bool.false_eq_true, Bool.not_true, Bool.not_false, decide_true, decide_false, wipeE, backE, hideL, stoF_0, stoF_1, stoF_2, stoF_3, stoF_4, finX, finP, sl_0, sl_1, sl_2, sl_3, sl_4, sl_5, sl_6, sl_7, sl_8, sl_9, sl_10, sl_11, sl_12, sl_13, sl_14, sl_15, sl_16, sl_17, sl_18, sl_19, sl_20, sl_21, sl_22, sl_23, sl_24, sl_25, sl_26, sl_27, sl_28, sl_29, sl_30, sl_31, sl_32, true_and, and_true, Nat.sub_self, Nat.reduceAdd, Nat.reduceSub, Nat.reduceLT, Nat.reduceLeDiff, Nat.zero_lt_succ, Nat.zero_le, gcd_ok 38 ax ay zb300]
    refine k1 _ ?_
    clear k1
    refine seq_run fun K k1 k2 => ?_
    clear k2
    have hl := (za.gcd zb).flog (by decide)
    obtain ⟨pa, pb, ep⟩ := prim_shape ax ay
    have P1 := primitive_ok 37 ax ay za300 zb300
    have P1 : E 39 7 none _ = _ := P1
    rw [ep] at P1
    have L2 := like_place 36 pa pb
    have L2 : E 39 12 none _ = _ := L2
    simp -implicitDefEqProofs only [↓run_cons, ↓run_nil, ↓run_asg, ↓run_set, ↓run_par, ↓run_exp, ↓run_retS, ↓run_retN, ↓run_pass, ↓run_brk, ↓run_cnt, ↓run_iff, ↓run_sto, ↓run_lop, ↓run_ret, ↓run_bind, ↓run_fz, ↓run_stuck, ↓run_var, ↓run_mov, ↓run_has, ↓run_bor, ↓run_put, ↓run_opt, ↓run_callP, ↓run_callIO, ↓run_not, ↓run_mB, ↓look_some, ↓opt_some, ↓optP_some, ↓optIO_some, ↓flow_next, ↓flow_brk, ↓flow_cnt, ↓flow_ret, ↓pick_true, ↓pick_false, cond_and, run_add_int, run_sub_int, run_mul_int, run_fdiv_int, run_mod_int, run_pow_int, run_neg_int, run_idx_tup, run_idx_lst, run_lt_int, run_le_int, run_eq_int, run_tup, run_lstV, run_len_lst, run_len_tup, run_abs_int, run_int_int, run_list_lst, run_list_tup, run_tuple_lst, run_tuple_tup, run_slc_lst, run_slc_tup, run_slc_rol, run_max2, run_min2, run_isN, Option.toList,  run_if, run_ret, run_bind, run_fz, run_var, run_mov, run_has, run_bor, run_put, run_opt, run_callP, run_callIO, run_not, run_mB, look_some, opt_some, optP_some, optIO_some, atI_0, atI_1, atI_2, atI_3, atI_4, ds_of, flat_lst, fz_lst, fz_d, flat_d, lstOf_lst, own_lst, ev, evs, IR.pv, valOf, ev1, ev2, ev2T, chnM, iteM, slcM, endOf, seqD, vBin, vCmp, andV, orV, andT, orT, vTru, putTg, putTgs, IE.isNop, fin, finIO, slot0, startE, List.length_cons, List.length_nil, List.length_set, List.map_cons, List.map_nil, List.cons_append, List.nil_append, List.append_nil, List.getElem?_cons_zero, List.getElem?_cons_succ, List.set_cons_zero, List.set_cons_succ, List.replicate, fzs_d, OV.ds, OV.flat, OV.fz, OV.fzs, lstOf, Option.map_some, Bool.decide_eq_true, if_true, if_false, Bool.false_eq_true, Bool.not_true, Bool.not_false, decide_true, decide_false, wipeE, backE, hideL, stoF_0, stoF_1, stoF_2, stoF_3, stoF_4, finX, finP, sl_0, sl_1, sl_2, sl_3, sl_4, sl_5, sl_6, sl_7, sl_8, sl_9, sl_10, sl_11, sl_12, sl_13, sl_14, sl_15, sl_16, sl_17, sl_18, sl_19, sl_20, sl_21, sl_22, sl_23, sl_24, sl_25, sl_26, sl_27, sl_28, sl_29, sl_30, sl_31, sl_32, true_and, and_true, Nat.sub_self, Nat.reduceAdd, Nat.reduceSub, Nat.reduceLT, Nat.reduceLeDiff, Nat.zero_lt_succ, Nat.zero_le, P1]
    refine pick_dec (fun hg => ?_) (fun hg => ?_)
    · have ep2 := ep
      unfold prim at ep2
      rw [if_pos hg] at ep2
      simp -implicitDefEqProofs only [↓run_cons, ↓run_nil, ↓run_asg, ↓run_set, ↓run_par, ↓run_exp, ↓run_retS, ↓run_retN, ↓run_pass, ↓run_brk, ↓run_cnt, ↓run_iff, ↓run_sto, ↓run_lop, ↓run_ret, ↓run_bind, ↓run_fz, ↓run_stuck, ↓run_var, ↓run_mov, ↓run_has, ↓run_bor, ↓run_put, ↓run_opt, ↓run_callP, ↓run_callIO, ↓run_not, ↓run_mB, ↓look_some, ↓opt_some, ↓optP_some, ↓optIO_some, ↓flow_next, ↓flow_brk, ↓flow_cnt, ↓flow_ret, ↓pick_true, ↓pick_false, cond_and, run_add_int, run_sub_int, run_mul_int, run_fdiv_int, run_mod_int, run_pow_int, run_neg_int, run_idx_tup, run_idx_lst, run_lt_int, run_le_int, run_eq_int, run_tup, run_lstV, run_len_lst, run_len_tup, run_abs_int, run_int_int, run_list_lst, run_list_tup, run_tuple_lst, run_tuple_tup, run_slc_lst, run_slc_tup, run_slc_rol, run_max2, run_min2, run_isN, Option.toList,  run_if, run_ret, run_bind, run_fz, run_var, run_mov, run_has, run_bor, run_put, run_opt, run_callP, run_callIO, run_not, run_mB, look_some, opt_some, optP_some, optIO_some, atI_0, atI_1, atI_2, atI_3, atI_4, ds_of, flat_lst, fz_lst, fz_d, flat_d, lstOf_lst, own_lst, ev, evs, IR.pv, valOf, ev1, ev2, ev2T, chnM, iteM, slcM, endOf, seqD, vBin, vCmp, andV, orV, andT, orT, vTru, putTg, putTgs, IE.isNop, fin, finIO, slot0, startE, List.length_cons, List.length_nil, List.length_set, List.map_cons, List.map_nil, List.cons_append, List.nil_append, List.append_nil, List.getElem?_cons_zero, List.getElem?_cons_succ, List.set_cons_zero, List.set_cons_succ, List.replicate, fzs_d, OV.ds, OV.flat, OV.fz, OV.fzs, lstOf, Option.map_some, Bool.decide_eq_true, if_true, if_false, Bool.false_eq_true, Bool.not_true, Bool.not_false, decide_true, decide_false, wipeE, backE, hideL, stoF_0, stoF_1, stoF_2, stoF_3, stoF_4, finX, finP, sl_0, sl_1, sl_2, sl_3, sl_4, sl_5, sl_6, sl_7, sl_8, sl_9, sl_10, sl_11, sl_12, sl_13, sl_14, sl_15, sl_16, sl_17, sl_18, sl_19, sl_20, sl_21, sl_22, sl_23, sl_24, sl_25, sl_26, sl_27, sl_28, sl_29, sl_30, sl_31, sl_32, true_and, and_true, Nat.sub_self, Nat.reduceAdd, Nat.reduceSub, Nat.reduceLT, Nat.reduceLeDiff, Nat.zero_lt_succ, Nat.zero_le, ep2, hg, hl, L2]
      refine k1 _ ?_
      clear k1
      refine seq_run fun K k1 k2 => ?_
      clear k2
      simp -implicitDefEqProofs only [↓run_cons, ↓run_nil, ↓run_asg, ↓run_set, ↓run_par, ↓run_exp, ↓run_retS, ↓run_retN, ↓run_pass, ↓run_brk, ↓run_cnt, ↓run_iff, ↓run_sto, ↓run_lop, ↓run_ret, ↓run_bind, ↓run_fz, ↓run_stuck, ↓run_var, ↓run_mov, ↓run_has, ↓run_bor, ↓run_put, ↓run_opt, ↓run_callP, ↓run_callIO, ↓run_not, ↓run_mB, ↓look_some, ↓opt_some, ↓optP_some, ↓optIO_some, ↓flow_next, ↓flow_brk, ↓flow_cnt, ↓flow_ret, ↓pick_true, ↓pick_false, cond_and, run_add_int, run_sub_int, run_mul_int, run_fdiv_int, run_mod_int, run_pow_int, run_neg_int, run_idx_tup, run_idx_lst, run_lt_int, run_le_int, run_eq_int, run_tup, run_lstV, run_len_lst, run_len_tup, run_abs_int, run_int_int, run_list_lst, run_list_tup, run_tuple_lst, run_tuple_tup, run_slc_lst, run_slc_tup, run_slc_rol, run_max2, run_min2, run_isN, Option.toList,  run_if, run_ret, run_bind, run_fz, run_var, run_mov, run_has, run_bor, run_put, run_opt, run_callP, run_callIO, run_not, run_mB, look_some, opt_some, optP_some, optIO_some, atI_0, atI_1, atI_2, atI_3, atI_4, ds_of, flat_lst, fz_lst, fz_d, flat_d, lstOf_lst, own_lst, ev, evs, IR.pv, valOf, ev1, ev2, ev2T, chnM, iteM, slcM, endOf, seqD, vBin, vCmp, andV, orV, andT, orT, vTru, putTg, putTgs, IE.isNop, fin, finIO, slot0, startE, List.length_cons, List.length_nil, List.length_set, List.map_cons, List.map_nil, List.cons_append, List.nil_append, List.append_nil, List.getElem?_cons_zero, List.getElem?_cons_succ, List.set_cons_zero, List.set_cons_succ, List.replicate, fzs_d, OV.ds, OV.flat, OV.fz, OV.fzs, lstOf, Option.map_some, Bool.decide_eq_true, if_true, if_false, Bool.false_eq_true, Bool.not_true, Bool.not_false, decide_true, decide_false, wipeE, backE, hideL, stoF_0, stoF_1, stoF_2, stoF_3, stoF_4, finX, finP, sl_0, sl_1, sl_2, sl_3, sl_4, sl_5, sl_6, sl_7, sl_8, sl_9, sl_10, sl_11, sl_12, sl_13, sl_14, sl_15, sl_16, sl_17, sl_18, sl_19, sl_20, sl_21, sl_22, sl_23, sl_24, sl_25, sl_26, sl_27, sl_28, sl_29, sl_30, sl_31, sl_32, true_and, and_true, Nat.sub_self, Nat.reduceAdd, Nat.reduceSub, Nat.reduceLT, Nat.reduceLeDiff, Nat.zero_lt_succ, Nat.zero_le, own_bag hb4, e5]
      refine k1 _ ?_
      clear k1
      refine seq_run fun K k1 k2 => ?_
      clear k2
      have zf : Sz 10 (2 + f) := (show Sz 10 1000 by unfold Sz; decide).of_lt (by omega) (by omega)
      have m1 := mulOk_sz za zf (by decide)
      have m2 := mulOk_sz zb zf (by decide)
      have P2 := primitive_ok 37 (ax * (2 + f)) (ay * (2 + f)) ((za.mul zf).mono (by decide)) ((zb.mul zf).mono (by decide))
      have P2 : E 39 7 none _ = _ := P2
      rw [prim_far ax ay (2 + f) (by omega) hg, ep] at P2
      have q1 : D.ok 60 (.tup [.int pa, .int pb]) = true := by simp [D.ok]
      simp -implicitDefEqProofs only [↓run_cons, ↓run_nil, ↓run_asg, ↓run_set, ↓run_par, ↓run_exp, ↓run_retS, ↓run_retN, ↓run_pass, ↓run_brk, ↓run_cnt, ↓run_iff, ↓run_sto, ↓run_lop, ↓run_ret, ↓run_bind, ↓run_fz, ↓run_stuck, ↓run_var, ↓run_mov, ↓run_has, ↓run_bor, ↓run_put, ↓run_opt, ↓run_callP, ↓run_callIO, ↓run_not, ↓run_mB, ↓look_some, ↓opt_some, ↓optP_some, ↓optIO_some, ↓flow_next, ↓flow_brk, ↓flow_cnt, ↓flow_ret, ↓pick_true, ↓pick_false, cond_and, run_add_int, run_sub_int, run_mul_int, run_fdiv_int, run_mod_int, run_pow_int, run_neg_int, run_idx_tup, run_idx_lst, run_lt_int, run_le_int, run_eq_int, run_tup, run_lstV, run_len_lst, run_len_tup, run_abs_int, run_int_int, run_list_lst, run_list_tup, run_tuple_lst, run_tuple_tup, run_slc_lst, run_slc_tup, run_slc_rol, run_max2, run_min2, run_isN, Option.toList,  run_if, run_ret, run_bind, run_fz, run_var, run_mov, run_has, run_bor, run_put, run_opt, run_callP, run_callIO, run_not, run_mB, look_some, opt_some, optP_some, optIO_some, atI_0, atI_1, atI_2, atI_3, atI_4, ds_of, flat_lst, fz_lst, fz_d, flat_d, lstOf_lst, own_lst, ev, evs, IR.pv, valOf, ev1, ev2, ev2T, chnM, iteM, slcM, endOf, seqD, vBin, vCmp, andV, orV, andT, orT, vTru, putTg, putTgs, IE.isNop, fin, finIO, slot0, startE, List.length_cons, List.length_nil, List.length_set, List.map_cons, List.map_nil, List.cons_append, List.nil_append, List.append_nil, List.getElem?_cons_zero, List.getElem?_cons_succ, List.set_cons_zero, List.set_cons_succ, List.replicate, fzs_d, OV.ds, OV.flat, OV.fz, OV.fzs, lstOf, Option.map_some, Bool.decide_eq_true, if_true, if_false, Bool.false_eq_true, Bool.not_true, Bool.not_false, decide_true, decide_false, wipeE, backE, hideL, stoF_0, stoF_1, stoF_2, stoF_3, stoF_4, finX, finP, sl_0, sl_1, sl_2, sl_3, sl_4, sl_5, sl_6, sl_7, sl_8, sl_9, sl_10, sl_11, sl_12, sl_13, sl_14, sl_15, sl_16, sl_17, sl_18, sl_19, sl_20, sl_21, sl_22, sl_23, sl_24, sl_25, sl_26, sl_27, sl_28, sl_29, sl_30, sl_31, sl_32, true_and, and_true, Nat.sub_self, Nat.reduceAdd, Nat.reduceSub, Nat.reduceLT, Nat.reduceLeDiff, Nat.zero_lt_succ, Nat.zero_le, m1, m2, P1, P2, run_eq_self q1, decide_eq_true hg]
      refine k1 _ ?_
      exact tail_ok hb5 e6 hod1 hod2 hod3 ⟨_, _, _, _, _, _, _, _, hb6.mono (by omega), rfl⟩
    · have ep2 := ep
      unfold prim at ep2
      rw [if_neg hg] at ep2
      simp -implicitDefEqProofs only [↓run_cons, ↓run_nil, ↓run_asg, ↓run_set, ↓run_par, ↓run_exp, ↓run_retS, ↓run_retN, ↓run_pass, ↓run_brk, ↓run_cnt, ↓run_iff, ↓run_sto, ↓run_lop, ↓run_ret, ↓run_bind, ↓run_fz, ↓run_stuck, ↓run_var, ↓run_mov, ↓run_has, ↓run_bor, ↓run_put, ↓run_opt, ↓run_callP, ↓run_callIO, ↓run_not, ↓run_mB, ↓look_some, ↓opt_some, ↓optP_some, ↓optIO_some, ↓flow_next, ↓flow_brk, ↓flow_cnt, ↓flow_ret, ↓pick_true, ↓pick_false, cond_and, run_add_int, run_sub_int, run_mul_int, run_fdiv_int, run_mod_int, run_pow_int, run_neg_int, run_idx_tup, run_idx_lst, run_lt_int, run_le_int, run_eq_int, run_tup, run_lstV, run_len_lst, run_len_tup, run_abs_int, run_int_int, run_list_lst, run_list_tup, run_tuple_lst, run_tuple_tup, run_slc_lst, run_slc_tup, run_slc_rol, run_max2, run_min2, run_isN, Option.toList,  run_if, run_ret, run_bind, run_fz, run_var, run_mov, run_has, run_bor, run_put, run_opt, run_callP, run_callIO, run_not, run_mB, look_some, opt_some, optP_some, optIO_some, atI_0, atI_1, atI_2, atI_3, atI_4, ds_of, flat_lst, fz_lst, fz_d, flat_d, lstOf_lst, own_lst, ev, evs, IR.pv, valOf, ev1, ev2, ev2T, chnM, iteM, slcM, endOf, seqD, vBin, vCmp, andV, orV, andT, orT, vTru, putTg, putTgs, IE.isNop, fin, finIO, slot0, startE, List.length_cons, List.length_nil, List.length_set, List.map_cons, List.map_nil, List.cons_append, List.nil_append, List.append_nil, List.getElem?_cons_zero, List.getElem?_cons_succ, List.set_cons_zero, List.set_cons_succ, List.replicate, fzs_d, OV.ds, OV.flat, OV.fz, OV.fzs, lstOf, Option.map_some, Bool.decide_eq_true, if_true, if_false, Bool.false_eq_true, Bool.not_true, Bool.not_false, decide_true, decide_false, wipeE, backE, hideL, stoF_0, stoF_1, stoF_2, stoF_3, stoF_4, finX, finP, sl_0, sl_1, sl_2, sl_3, sl_4, sl_5, sl_6, sl_7, sl_8, sl_9, sl_10, sl_11, sl_12, sl_13, sl_14, sl_15, sl_16, sl_17, sl_18, sl_19, sl_20, sl_21, sl_22, sl_23, sl_24, sl_25, sl_26, sl_27, sl_28, sl_29, sl_30, sl_31, sl_32, true_and, and_true, Nat.sub_self, Nat.reduceAdd, Nat.reduceSub, Nat.reduceLT, Nat.reduceLeDiff, Nat.zero_lt_succ, Nat.zero_le, ep2, L2]
      refine k1 _ ?_
      clear k1
      refine seq_run fun K k1 k2 => ?_
      clear k2
      simp -implicitDefEqProofs only [↓run_cons, ↓run_nil, ↓run_asg, ↓run_set, ↓run_par, ↓run_exp, ↓run_retS, ↓run_retN, ↓run_pass, ↓run_brk, ↓run_cnt, ↓run_iff, ↓run_sto, ↓run_lop, ↓run_ret, ↓run_bind, ↓run_fz, ↓run_stuck, ↓run_var, ↓run_mov, ↓run_has, ↓run_bor, ↓run_put, ↓run_opt, ↓run_callP, ↓run_callIO, ↓run_not, ↓run_mB, ↓look_some, ↓opt_some, ↓optP_some, ↓optIO_some, ↓flow_next, ↓flow_brk, ↓flow_cnt, ↓flow_ret, ↓pick_true, ↓pick_false, cond_and, run_add_int, run_sub_int, run_mul_int, run_fdiv_int, run_mod_int, run_pow_int, run_neg_int, run_idx_tup, run_idx_lst, run_lt_int, run_le_int, run_eq_int, run_tup, run_lstV, run_len_lst, run_len_tup, run_abs_int, run_int_int, run_list_lst, run_list_tup, run_tuple_lst, run_tuple_tup, run_slc_lst, run_slc_tup, run_slc_rol, run_max2, run_min2, run_isN, Option.toList,  run_if, run_ret, run_bind, run_fz, run_var, run_mov, run_has, run_bor, run_put, run_opt, run_callP, run_callIO, run_not, run_mB, look_some, opt_some, optP_some, optIO_some, atI_0, atI_1, atI_2, atI_3, atI_4, ds_of, flat_lst, fz_lst, fz_d, flat_d, lstOf_lst, own_lst, ev, evs, IR.pv, valOf, ev1, ev2, ev2T, chnM, iteM, slcM, endOf, seqD, vBin, vCmp, andV, orV, andT, orT, vTru, putTg, putTgs, IE.isNop, fin, finIO, slot0, startE, List.length_cons, List.length_nil, List.length_set, List.map_cons, List.map_nil, List.cons_append, List.nil_append, List.append_nil, List.getElem?_cons_zero, List.getElem?_cons_succ, List.set_cons_zero, List.set_cons_succ, List.replicate, fzs_d, OV.ds, OV.flat, OV.fz, OV.fzs, lstOf, Option.map_some, Bool.decide_eq_true, if_true, if_false, Bool.false_eq_true, Bool.not_true, Bool.not_false, decide_true, decide_false, wipeE, backE, hideL, stoF_0, stoF_1, stoF_2, stoF_3, stoF_4, finX, finP, sl_0, sl_1, sl_2, sl_3, sl_4, sl_5, sl_6, sl_7, sl_8, sl_9, sl_10, sl_11, sl_12, sl_13, sl_14, sl_15, sl_16, sl_17, sl_18, sl_19, sl_20, sl_21, sl_22, sl_23, sl_24, sl_25, sl_26, sl_27, sl_28, sl_29, sl_30, sl_31, sl_32, true_and, and_true, Nat.sub_self, Nat.reduceAdd, Nat.reduceSub, Nat.reduceLT, Nat.reduceLeDiff, Nat.zero_lt_succ, Nat.zero_le, own_bag hb4, e5]
      refine k1 _ ?_
      clear k1
      refine seq_run fun K k1 k2 => ?_
      clear k2
      simp -implicitDefEqProofs only [↓run_cons, ↓run_nil, ↓run_asg, ↓run_set, ↓run_par, ↓run_exp, ↓run_retS, ↓run_retN, ↓run_pass, ↓run_brk, ↓run_cnt, ↓run_iff, ↓run_sto, ↓run_lop, ↓run_ret, ↓run_bind, ↓run_fz, ↓run_stuck, ↓run_var, ↓run_mov, ↓run_has, ↓run_bor, ↓run_put, ↓run_opt, ↓run_callP, ↓run_callIO, ↓run_not, ↓run_mB, ↓look_some, ↓opt_some, ↓optP_some, ↓optIO_some, ↓flow_next, ↓flow_brk, ↓flow_cnt, ↓flow_ret, ↓pick_true, ↓pick_false, cond_and, run_add_int, run_sub_int, run_mul_int, run_fdiv_int, run_mod_int, run_pow_int, run_neg_int, run_idx_tup, run_idx_lst, run_lt_int, run_le_int, run_eq_int, run_tup, run_lstV, run_len_lst, run_len_tup, run_abs_int, run_int_int, run_list_lst, run_list_tup, run_tuple_lst, run_tuple_tup, run_slc_lst, run_slc_tup, run_slc_rol, run_max2, run_min2, run_isN, Option.toList,  run_if, run_ret, run_bind, run_fz, run_var, run_mov, run_has, run_bor, run_put, run_opt, run_callP, run_callIO, run_not, run_mB, look_some, opt_some, optP_some, optIO_some, atI_0, atI_1, atI_2, atI_3, atI_4, ds_of, flat_lst, fz_lst, fz_d, flat_d, lstOf_lst, own_lst, ev, evs, IR.pv, valOf, ev1, ev2, ev2T, chnM, iteM, slcM, endOf, seqD, vBin, vCmp, andV, orV, andT, orT, vTru, putTg, putTgs, IE.isNop, fin, finIO, slot0, startE, List.length_cons, List.length_nil, List.length_set, List.map_cons, List.map_nil, List.cons_append, List.nil_append, List.append_nil, List.getElem?_cons_zero, List.getElem?_cons_succ, List.set_cons_zero, List.set_cons_succ, List.replicate, fzs_d, OV.ds, OV.flat, OV.fz, OV.fzs, lstOf, Option.map_some, Bool.decide_eq_true, if_true, if_false, Bool.false_eq_true, Bool.not_true, Bool.not_false, decide_true, decide_false, wipeE, backE, hideL, stoF_0, stoF_1, stoF_2, stoF_3, stoF_4, finX, finP, sl_0, sl_1, sl_2, sl_3, sl_4, sl_5, sl_6, sl_7, sl_8, sl_9, sl_10, sl_11, sl_12, sl_13, sl_14, sl_15, sl_16, sl_17, sl_18, sl_19, sl_20, sl_21, sl_22, sl_23, sl_24, sl_25, sl_26, sl_27, sl_28, sl_29, sl_30, sl_31, sl_32, true_and, and_true, Nat.sub_self, Nat.reduceAdd, Nat.reduceSub, Nat.reduceLT, Nat.reduceLeDiff, Nat.zero_lt_succ, Nat.zero_le, decide_eq_false hg]
      refine k1 _ ?_
      exact tail_ok hb5 e6 hod1 hod2 hod3 ⟨_, _, _, _, _, _, _, _, hb6.mono (by omega), rfl⟩
  · subst e
    refine k1 _ ?_
    have P0 := primitive_ok 37 0 0 (by unfold Sz; decide) (by unfold Sz; decide)
    have e00 : prim 0 0 = .tup [.int 0, .int 0] := rfl
    rw [e00] at P0
    have P0 : E 39 7 none [.tup [.int 0, .int 0]] = _ := P0
    have T0 := turned_ok 38 1 0
    have T0 : E 39 8 none [.tup [.int 1, .int 0]] = some (.ok (.d (.tup [.int 0, .int 1])), none) := T0
    have q1 : D.ok 60 (.tup [.int 0, .int 0]) = true := by decide
    have q2 : D.ok 60 (.tup [.int 0, .int 1]) = true := by decide
    simp -implicitDefEqProofs only [↓run_cons, ↓run_nil, ↓run_asg, ↓run_set, ↓run_par, ↓run_exp, ↓run_retS, ↓run_retN, ↓run_pass, ↓run_brk, ↓run_cnt, ↓run_iff, ↓run_sto, ↓run_lop, ↓run_ret, ↓run_bind, ↓run_fz, ↓run_stuck, ↓run_var, ↓run_mov, ↓run_has, ↓run_bor, ↓run_put, ↓run_opt, ↓run_callP, ↓run_callIO, ↓run_not, ↓run_mB, ↓look_some, ↓opt_some, ↓optP_some, ↓optIO_some, ↓flow_next, ↓flow_brk, ↓flow_cnt, ↓flow_ret, ↓pick_true, ↓pick_false, cond_and, run_add_int, run_sub_int, run_mul_int, run_fdiv_int, run_mod_int, run_pow_int, run_neg_int, run_idx_tup, run_idx_lst, run_lt_int, run_le_int, run_eq_int, run_tup, run_lstV, run_len_lst, run_len_tup, run_abs_int, run_int_int, run_list_lst, run_list_tup, run_tuple_lst, run_tuple_tup, run_slc_lst, run_slc_tup, run_slc_rol, run_max2, run_min2, run_isN, Option.toList,  run_if, run_ret, run_bind, run_fz, run_var, run_mov, run_has, run_bor, run_put, run_opt, run_callP, run_callIO, run_not, run_mB, look_some, opt_some, optP_some, optIO_some, atI_0, atI_1, atI_2, atI_3, atI_4, ds_of, flat_lst, fz_lst, fz_d, flat_d, lstOf_lst, own_lst, ev, evs, IR.pv, valOf, ev1, ev2, ev2T, chnM, iteM, slcM, endOf, seqD, vBin, vCmp, andV, orV, andT, orT, vTru, putTg, putTgs, IE.isNop, fin, finIO, slot0, startE, List.length_cons, List.length_nil, List.length_set, List.map_cons, List.map_nil, List.cons_append, List.nil_append, List.append_nil, List.getElem?_cons_zero, List.getElem?_cons_succ, List.set_cons_zero, List.set_cons_succ, List.replicate, fzs_d, OV.ds, OV.flat, OV.fz, OV.fzs, lstOf, Option.map_some, Bool.decide_eq_true, if_true, if_false, Bool.false_eq_true, Bool.not_true, Bool.not_false, decide_true, decide_false, wipeE, backE, hideL, stoF_0, stoF_1, stoF_2, stoF_3, stoF_4, finX, finP, sl_0, sl_1, sl_2, sl_3, sl_4, sl_5, sl_6, sl_7, sl_8, sl_9, sl_10, sl_11, sl_12, sl_13, sl_14, sl_15, sl_16, sl_17, sl_18, sl_19, sl_20, sl_21, sl_22, sl_23, sl_24, sl_25, sl_26, sl_27, sl_28, sl_29, sl_30, sl_31, sl_32, true_and, and_true, Nat.sub_self, Nat.reduceAdd, Nat.reduceSub, Nat.reduceLT, Nat.reduceLeDiff, Nat.zero_lt_succ, Nat.zero_le, P0, T0, run_eq_self q1, run_eq_self q2]
    exact hR _
end K01
end
section
theorem k01_end : PySem.Challenge.rw_islefade_k01_places.Holds := by
  exact law_of fun ns _ => by
    have h := K01.law_ok ns
    unfold K01.E at h
    rw [IR.PG_def] at h
    exact h
end
theorem PySem.Challenge.cw_islefade_k01_places_holds : PySem.Challenge.rw_islefade_k01_places.Holds := by
  exact k01_end
