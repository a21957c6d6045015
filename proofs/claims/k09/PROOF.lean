import PyProof.Rows.All
import Wide.All
import OpenK.AllK
import Wide.FinOn
import HandS.ForMost
import HandS.Lambda
import HandS.TupAny
import HandS.IsInst
import HandS.Zip
import HandS.Conv
import HandS.DictComp
import KE.KEqDict
import HandS.NoneIn
import HandS.Style
import KE.KEqNest
import PyProof.NeKinds
import KE.KDictList
import HandS.ListItems
import KE.KDictDisplayH
import HandS.More
import PyProof.Rows.StrMeet
import HandS.SetKeys
import PyProof.Rows.SetFrom
import KE.KUnpackStar
import HandS.Nested
import HandS.SortInts
import KE.KSortKeyAny
import HandS.Strs
import HandS.Finally
import HandS.Defaults
import HandS.EndTab
import HandS.MakeKwOnly
import KE.KNestM
import PySem.Challenge.RW_handsdealt_k09_fewest_by_hand
set_option Elab.async false
set_option linter.all false
set_option maxRecDepth 100000
/-! PV: a value-level reading of Python over the hand layer. Part A: data, frozen heaps, owned trees, strongest readings. -/
namespace PV
open PySem PySem.Spec PyProof.Rows L2

abbrev cap : Nat := 100000
theorem cap_le {n : Nat} (h : n ≤ cap) : n ≤ sizeLine := Nat.le_trans h (by decide)
theorem cap_lt {n : Nat} (h : n ≤ cap) : n < sizeLine := Nat.lt_of_le_of_lt h (by decide)

/-- data: what a value stands for, sharing forgotten -/
inductive D where
  | non | bl (b : Bool) | int (i : Int) | str (x : Str)
  | lst (xs : List D) | tup (xs : List D) | rol (ns : List Int) | rot (xs : List D)
  | dic (kvs : List (Key × D)) | dicT (kvs : List (List Key × D))
  | ins (c : Str) (fs : List (Str × D))

/-- the tables of code objects that a lambda's making writes -/
class Tabl where
  T : List (Addr × Str)
def isTbl : HO → Bool
  | .tbl _ => true
  | _ => false
structure Ex (H H' : Hp) : Prop where
  at_ : ∀ a o, H a = some o → isTbl o = false → H' a = some o
  tb : ∀ a ps, H a = some (.tbl ps) → ∃ ps', H' a = some (.tbl ps')
theorem Ex.get {H H' : Hp} (e : Ex H H') {a : Addr} {o : HO} (h : H a = some o) (n : isTbl o = false := by rfl) : H' a = some o := e.at_ a o h n
theorem Ex.full {H H' : Hp} (h : ∀ a o, H a = some o → H' a = some o) : Ex H H' := ⟨fun a o e _ => h a o e, fun a ps e => ⟨ps, h a _ e⟩⟩
theorem Ex.refl (H : Hp) : Ex H H := .full fun _ _ h => h
theorem Ex.trans {H H1 H2 : Hp} (a : Ex H H1) (b : Ex H1 H2) : Ex H H2 := ⟨fun x o h n => b.at_ x o (a.at_ x o h n) n, fun x ps h => let ⟨ps1, h1⟩ := a.tb x ps h; b.tb x ps1 h1⟩
theorem new_full {H : Hp} {p : Addr} {o : HO} (h : H p = none) : ∀ a u, H a = some u → upd H p o a = some u := fun a u e => by
  rw [upd_ne (ne_of_none e h)]; exact e
theorem Ex.new {H : Hp} {p : Addr} {o : HO} (h : H p = none) : Ex H (upd H p o) := .full (new_full h)
theorem isTbl_inv {o : HO} (h : isTbl o = true) : ∃ ps, o = .tbl ps := by
  cases o <;> first | exact ⟨_, rfl⟩ | cases h
theorem Ex.some {H H' : Hp} (e : Ex H H') {l : Addr} {o : HO} (h : H l = some o) : ∃ o', H' l = some o' := by
  cases q : isTbl o with
  | false => exact ⟨o, e.at_ l o h q⟩
  | true =>
    obtain ⟨ps, rfl⟩ := isTbl_inv q
    obtain ⟨ps', h'⟩ := e.tb l ps h
    exact ⟨_, h'⟩
theorem Ex.free {H H' : Hp} (e : Ex H H') {l : Addr} (h : H' l = none) : H l = none := by
  cases q : H l with
  | none => rfl
  | some o => obtain ⟨o', z⟩ := e.some q; rw [z] at h; cases h
theorem Ex.updR {H H' : Hp} {p : Addr} {o : HO} (e : Ex H H') (h : H p = none) : Ex H (upd H' p o) :=
  ⟨fun a u q n => by rw [upd_ne (ne_of_none q h)]; exact e.at_ a u q n, fun a ps q => by rw [upd_ne (ne_of_none q h)]; exact e.tb a ps q⟩
/-- a table, or what is known in another way -/
def isTE : HO → Bool
  | .tbl _ => true
  | .ext _ => true
  | _ => false
theorem tabs_same {T : List (Addr × Str)} {H G : Hp} {p : Addr} {u : HO} (t : LamX.Tabs T H) (h : H p = some u) (n : isTE u = false) (q : ∀ a, a ≠ p → G a = H a) : LamX.Tabs T G := fun z hz => by
  obtain ⟨ps, h1, h2, h3⟩ := t z hz
  have ne : ∀ a v, H a = some v → isTE v = true → a ≠ p := fun a v e k q => by
    rw [q, h] at e; cases e; rw [n] at k; cases k
  refine ⟨ps, by rw [q _ (ne _ _ h1 rfl)]; exact h1, h2, fun pos cv hc => ?_⟩
  obtain ⟨c, e1, e2⟩ := h3 pos cv hc
  exact ⟨c, e1, by rw [q _ (ne _ _ e2 rfl)]; exact e2⟩
theorem tabs_upd {T : List (Addr × Str)} {H : Hp} {p : Addr} {u o : HO} (t : LamX.Tabs T H) (h : H p = some u) (n : isTE u = false) : LamX.Tabs T (upd H p o) := fun z hz => by
  obtain ⟨ps, h1, h2, h3⟩ := t z hz
  have ne : ∀ a v, H a = some v → isTE v = true → a ≠ p := fun a v e k q => by
    rw [q, h] at e; cases e; rw [n] at k; cases k
  refine ⟨ps, by rw [upd_ne (ne _ _ h1 rfl)]; exact h1, h2, fun pos cv hc => ?_⟩
  obtain ⟨c, e1, e2⟩ := h3 pos cv hc
  exact ⟨c, e1, by rw [upd_ne (ne _ _ e2 rfl)]; exact e2⟩
variable [Tabl]
/-- the frozen heap F within the heap H -/
structure Fh (F H : Hp) : Prop extends Ex F H where
  tabs : LamX.Tabs Tabl.T H
instance {F H : Hp} : Coe (Fh F H) (Ex F H) := ⟨Fh.toEx⟩
theorem Fh.into {F F' H : Hp} (e : Fh F H) (h : Ex F' H) : Fh F' H := ⟨h, e.tabs⟩
theorem Fh.grow {F H H' : Hp} (e : Fh F H) (h : ∀ a o, H a = some o → H' a = some o) : Fh F H' := ⟨e.toEx.trans (.full h), e.tabs.ext h⟩
theorem ex_rd {H H' : Hp} {a : Addr} {u : HO} (e : Ex H H') (h : Rd H a u) (n : isTbl u = false := by rfl) : Rd H' a u := by
  rcases h with h | ⟨o, h⟩
  · exact .inl (e.get h n)
  · exact .inr ⟨o, e.get h⟩
theorem ex_l {K : PySem.W.Frag} {H H' : Hp} {a : Addr} {xs : List V} (e : Ex H H') (h : SqL K H a xs) : SqL K H' a xs := by
  rcases h with h | h
  · exact .inl (ex_rd e h)
  · exact .inr h
theorem ex_t {K : PySem.W.Frag} {H H' : Hp} {a : Addr} {xs : List V} (e : Ex H H') (h : SqT K H a xs) : SqT K H' a xs := by
  rcases h with h | h
  · exact .inl (ex_rd e h)
  · exact .inr h

/-! ### what data a value stands for, in a frozen heap -/
mutual
inductive Dat (K : PySem.W.Frag) (F : Hp) : V → D → Prop
  | non : Dat K F .non .non
  | bl (b : Bool) : Dat K F (.bl b) (.bl b)
  | int (i : Int) : Dat K F (.int i) (.int i)
  | str (x : Str) : Dat K F (.str x) (.str x)
  | lst {a : Addr} {vs : List V} {ds : List D} : F a = some (.lst vs) → Dats K F vs ds → ds.length ≤ cap → Dat K F (.ref a) (.lst ds)
  | tup {a : Addr} {vs : List V} {ds : List D} : F a = some (.tup vs) → Dats K F vs ds → ds.length ≤ cap → Dat K F (.ref a) (.tup ds)
  | rot {a : Addr} {vs : List V} {ds : List D} : SqT K F a vs → Dats K F vs ds → ds.length ≤ cap → Dat K F (.ref a) (.rot ds)
  | rol {a : Addr} {ns : List Int} : SqL K F a (ns.map V.int) → ns.length ≤ cap → Dat K F (.ref a) (.rol ns)
  | dic {a : Addr} {kvs : List (Key × V)} {ds : List (Key × D)} : Rd F a (.dK kvs) → kvs.map (·.1) = ds.map (·.1) → Dats K F (kvs.map (·.2)) (ds.map (·.2)) → ds.length ≤ cap → Dat K F (.ref a) (.dic ds)
  | dicT {a : Addr} {kvs : List (List Key × V)} {ds : List (List Key × D)} : F a = some (.dT kvs) → kvs.map (·.1) = ds.map (·.1) → Dats K F (kvs.map (·.2)) (ds.map (·.2)) → ds.length ≤ cap → Dat K F (.ref a) (.dicT ds)
  | ins {a C dx : Addr} {c : Str} {fs : List (Str × V)} {ds : List (Str × D)} : F a = some (.ins C dx fs) → F dx = some (.own a) → PySem.W.nsIn K mainGlobals c = some (some (.ref C)) → fs.map (·.1) = ds.map (·.1) → Dats K F (fs.map (·.2)) (ds.map (·.2)) → Dat K F (.ref a) (.ins c ds)
inductive Dats (K : PySem.W.Frag) (F : Hp) : List V → List D → Prop
  | nil : Dats K F [] []
  | cons {v : V} {vs : List V} {d : D} {ds : List D} : Dat K F v d → Dats K F vs ds → Dats K F (v :: vs) (d :: ds)
end
section
variable {K : PySem.W.Frag} {F F' : Hp}
mutual
theorem Dat.mono (e : Ex F F') : ∀ {v : V} {d : D}, Dat K F v d → Dat K F' v d
  | _, _, .non => .non
  | _, _, .bl b => .bl b
  | _, _, .int i => .int i
  | _, _, .str x => .str x
  | _, _, .lst h1 h2 h3 => .lst (e.get h1) (Dats.mono e h2) h3
  | _, _, .tup h1 h2 h3 => .tup (e.get h1) (Dats.mono e h2) h3
  | _, _, .rot h1 h2 h3 => .rot (ex_t e h1) (Dats.mono e h2) h3
  | _, _, .rol h1 h2 => .rol (ex_l e h1) h2
  | _, _, .dic h1 h2 h3 h4 => .dic (ex_rd e h1) h2 (Dats.mono e h3) h4
  | _, _, .dicT h1 h2 h3 h4 => .dicT (e.get h1) h2 (Dats.mono e h3) h4
  | _, _, .ins h1 h2 h3 h4 h5 => .ins (e.get h1) (e.get h2) h3 h4 (Dats.mono e h5)
theorem Dats.mono (e : Ex F F') : ∀ {vs : List V} {ds : List D}, Dats K F vs ds → Dats K F' vs ds
  | _, _, .nil => .nil
  | _, _, .cons h1 h2 => .cons (Dat.mono e h1) (Dats.mono e h2)
end
theorem Dats.length : ∀ {vs : List V} {ds : List D}, Dats K F vs ds → vs.length = ds.length
  | _, _, .nil => rfl
  | _, _, .cons _ h => by rw [List.length_cons, List.length_cons, h.length]
theorem Dats.get : ∀ {vs : List V} {ds : List D} {i : Nat} {d : D}, Dats K F vs ds → ds[i]? = some d → ∃ v, vs[i]? = some v ∧ Dat K F v d
  | _, _, _, _, .nil, e => by simp at e
  | _, _, 0, _, .cons h _, e => by simp at e; subst e; exact ⟨_, rfl, h⟩
  | _, _, i + 1, d, .cons _ t, e => by
    obtain ⟨v, h1, h2⟩ := Dats.get (i := i) (d := d) t (by simpa using e)
    exact ⟨v, by simpa using h1, h2⟩
theorem Dats.getV : ∀ {vs : List V} {ds : List D} {i : Nat} {v : V}, Dats K F vs ds → vs[i]? = some v → ∃ d, ds[i]? = some d ∧ Dat K F v d
  | _, _, _, _, .nil, e => by simp at e
  | _, _, 0, _, .cons h _, e => by simp at e; subst e; exact ⟨_, rfl, h⟩
  | _, _, i + 1, v, .cons _ t, e => by
    obtain ⟨d, h1, h2⟩ := Dats.getV (i := i) (v := v) t (by simpa using e)
    exact ⟨d, by simpa using h1, h2⟩
theorem Dats.app : ∀ {vs ws : List V} {ds es : List D}, Dats K F vs ds → Dats K F ws es → Dats K F (vs ++ ws) (ds ++ es)
  | _, _, _, _, .nil, h => h
  | _, _, _, _, .cons h t, q => .cons h (Dats.app t q)
theorem Dats.take : ∀ {vs : List V} {ds : List D} (n : Nat), Dats K F vs ds → Dats K F (vs.take n) (ds.take n)
  | _, _, 0, _ => .nil
  | _, _, _ + 1, .nil => .nil
  | _, _, n + 1, .cons h t => .cons h (Dats.take n t)
theorem Dats.drop : ∀ {vs : List V} {ds : List D} (n : Nat), Dats K F vs ds → Dats K F (vs.drop n) (ds.drop n)
  | _, _, 0, h => h
  | _, _, _ + 1, .nil => .nil
  | _, _, n + 1, .cons _ t => Dats.drop n t
theorem Dats.set {v : V} {d : D} (h : Dat K F v d) : ∀ {vs : List V} {ds : List D} (n : Nat), Dats K F vs ds → Dats K F (vs.set n v) (ds.set n d)
  | _, _, _, .nil => .nil
  | _, _, 0, .cons _ t => .cons h t
  | _, _, n + 1, .cons q t => .cons q (Dats.set h n t)
theorem Dats.one {v : V} {d : D} (h : Dat K F v d) : Dats K F [v] [d] := .cons h .nil
end

/-! ### a step of the frozen heap F within the heap H -/
structure Stp (F H F' H' : Hp) : Prop where
  ff : Ex F F'
  hh : Ex H H'
  fh : Fh F' H'
  nw : ∀ a, F' a ≠ none → F a ≠ none ∨ H a = none
theorem Stp.refl {F H : Hp} (e : Fh F H) : Stp F H F H := ⟨.refl F, .refl H, e, fun _ h => .inl h⟩
theorem Stp.trans {F H F1 H1 F2 H2 : Hp} (a : Stp F H F1 H1) (b : Stp F1 H1 F2 H2) : Stp F H F2 H2 :=
  ⟨a.ff.trans b.ff, a.hh.trans b.hh, b.fh, fun x h => (b.nw x h).elim (a.nw x) fun z => .inr (a.hh.free z)⟩
/-- a new object, frozen at once -/
theorem Stp.new {F H : Hp} {p : Addr} {o : HO} (e : Fh F H) (h : H p = none) : Stp F H (upd F p o) (upd H p o) :=
  ⟨.new (e.free h), .new h, ⟨⟨fun a u q n => by
    by_cases z : a = p
    · subst z; rw [upd_same] at q ⊢; exact q
    · rw [upd_ne z] at q ⊢; exact e.get q n, fun a ps q => by
    by_cases z : a = p
    · subst z; rw [upd_same] at q ⊢; exact ⟨ps, q⟩
    · rw [upd_ne z] at q ⊢; exact e.tb a ps q⟩, e.tabs.ext (new_full h)⟩, fun a q => by
    by_cases z : a = p
    · subst z; exact .inr h
    · rw [upd_ne z] at q; exact .inl q⟩
/-- a new object, not frozen -/
theorem Stp.loose {F H : Hp} {p : Addr} {o : HO} (e : Fh F H) (h : H p = none) : Stp F H F (upd H p o) :=
  ⟨.refl F, .new h, e.grow (new_full h), fun a q => .inl q⟩

/-! ### owned trees -/
/- no container within -/
mutual
def imm : D → Bool
  | .non => true | .bl _ => true | .int _ => true | .str _ => true
  | .tup ds => imms ds
  | .rot ds => imms ds
  | .lst _ => false | .rol _ => false | .dic _ => false | .dicT _ => false | .ins _ _ => false
def imms : List D → Bool
  | [] => true
  | d :: ds => imm d && imms ds
end
/- k = 0: frozen; k + 1: the container itself is owned, its items are owned k deep -/
mutual
inductive Own (K : PySem.W.Frag) (F H : Hp) : Nat → V → D → List Addr → Prop
  | frz {v : V} {d : D} : Dat K F v d → Own K F H 0 v d []
  | sc {k : Nat} {v : V} {d : D} : imm d = true → Dat K F v d → Own K F H k v d []
  | lst {k : Nat} {a : Addr} {vs : List V} {ds : List D} {fp : List Addr} : H a = some (.lst vs) → F a = none → Owns K F H k vs ds fp → a ∉ fp → ds.length ≤ cap → Own K F H (k + 1) (.ref a) (.lst ds) (a :: fp)
  | dic {k : Nat} {a : Addr} {kvs : List (Key × V)} {ds : List (Key × D)} {fp : List Addr} : H a = some (.dK kvs) → F a = none → kvs.map (·.1) = ds.map (·.1) → Owns K F H k (kvs.map (·.2)) (ds.map (·.2)) fp → a ∉ fp → ds.length ≤ cap → Own K F H (k + 1) (.ref a) (.dic ds) (a :: fp)
  | dicT {k : Nat} {a : Addr} {kvs : List (List Key × V)} {ds : List (List Key × D)} {fp : List Addr} : H a = some (.dT kvs) → F a = none → kvs.map (·.1) = ds.map (·.1) → Owns K F H k (kvs.map (·.2)) (ds.map (·.2)) fp → a ∉ fp → ds.length ≤ cap → Own K F H (k + 1) (.ref a) (.dicT ds) (a :: fp)
  | ins {k : Nat} {a C dx : Addr} {c : Str} {fs : List (Str × V)} {ds : List (Str × D)} {fp : List Addr} : H a = some (.ins C dx fs) → F a = none → H dx = some (.own a) → F dx = none → PySem.W.nsIn K mainGlobals c = some (some (.ref C)) → fs.map (·.1) = ds.map (·.1) → Owns K F H k (fs.map (·.2)) (ds.map (·.2)) fp → a ∉ fp → dx ∉ fp → Own K F H (k + 1) (.ref a) (.ins c ds) (a :: dx :: fp)
inductive Owns (K : PySem.W.Frag) (F H : Hp) : Nat → List V → List D → List Addr → Prop
  | nil {k : Nat} : Owns K F H k [] [] []
  | cons {k : Nat} {v : V} {vs : List V} {d : D} {ds : List D} {fp fq : List Addr} : Own K F H k v d fp → Owns K F H k vs ds fq → (∀ a ∈ fp, a ∉ fq) → Owns K F H k (v :: vs) (d :: ds) (fp ++ fq)
end
section
variable {K : PySem.W.Frag} {F F' H H' : Hp}
theorem owns_zero : ∀ {vs : List V} {ds : List D}, Dats K F vs ds → Owns K F H 0 vs ds []
  | _, _, .nil => .nil
  | _, _, .cons h t => by
    have q := Owns.cons (H := H) (.frz h) (owns_zero t) (by simp)
    simpa using q
/- the owned addresses are not frozen, and stand in H -/
mutual
theorem Own.loose : ∀ {k : Nat} {v : V} {d : D} {fp : List Addr}, Own K F H k v d fp → ∀ a ∈ fp, F a = none ∧ ∃ o, H a = some o ∧ (∀ xs, o ≠ .tup xs) ∧ (∀ u v, o ≠ .frz u v) ∧ isTbl o = false
  | _, _, _, _, .frz _, a, h => by cases h
  | _, _, _, _, .sc _ _, a, h => by cases h
  | _, _, _, _, .lst h1 h2 h3 _ _, a, h => by
    rcases List.mem_cons.mp h with rfl | h
    · exact ⟨h2, _, h1, (fun _ z => nomatch z), (fun _ _ z => nomatch z), rfl⟩
    · exact Owns.loose h3 a h
  | _, _, _, _, .dic h1 h2 _ h3 _ _, a, h => by
    rcases List.mem_cons.mp h with rfl | h
    · exact ⟨h2, _, h1, (fun _ z => nomatch z), (fun _ _ z => nomatch z), rfl⟩
    · exact Owns.loose h3 a h
  | _, _, _, _, .dicT h1 h2 _ h3 _ _, a, h => by
    rcases List.mem_cons.mp h with rfl | h
    · exact ⟨h2, _, h1, (fun _ z => nomatch z), (fun _ _ z => nomatch z), rfl⟩
    · exact Owns.loose h3 a h
  | _, _, _, _, .ins h1 h2 h3 h4 _ _ h5 _ _, a, h => by
    rcases List.mem_cons.mp h with rfl | h
    · exact ⟨h2, _, h1, (fun _ z => nomatch z), (fun _ _ z => nomatch z), rfl⟩
    · rcases List.mem_cons.mp h with rfl | h
      · exact ⟨h4, _, h3, (fun _ z => nomatch z), (fun _ _ z => nomatch z), rfl⟩
      · exact Owns.loose h5 a h
theorem Owns.loose : ∀ {k : Nat} {vs : List V} {ds : List D} {fp : List Addr}, Owns K F H k vs ds fp → ∀ a ∈ fp, F a = none ∧ ∃ o, H a = some o ∧ (∀ xs, o ≠ .tup xs) ∧ (∀ u v, o ≠ .frz u v) ∧ isTbl o = false
  | _, _, _, _, .nil, a, h => by cases h
  | _, _, _, _, .cons h1 h2 _, a, h => by
    rcases List.mem_append.mp h with h | h
    · exact Own.loose h1 a h
    · exact Owns.loose h2 a h
end
/- owned trees stay, where their addresses stay loose and their objects stay -/
mutual
theorem Own.keep (ef : Ex F F') : ∀ {k : Nat} {v : V} {d : D} {fp : List Addr}, Own K F H k v d fp → (∀ a ∈ fp, H' a = H a ∧ F' a = none) → Own K F' H' k v d fp
  | _, _, _, _, .frz h, _ => .frz (h.mono ef)
  | _, _, _, _, .sc i h, _ => .sc i (h.mono ef)
  | _, _, _, _, .lst h1 h2 h3 h4 h5, q => .lst ((q _ List.mem_cons_self).1.trans h1) (q _ List.mem_cons_self).2 (Owns.keep ef h3 fun a h => q a (List.mem_cons_of_mem _ h)) h4 h5
  | _, _, _, _, .dic h1 h2 e h3 h4 h5, q => .dic ((q _ List.mem_cons_self).1.trans h1) (q _ List.mem_cons_self).2 e (Owns.keep ef h3 fun a h => q a (List.mem_cons_of_mem _ h)) h4 h5
  | _, _, _, _, .dicT h1 h2 e h3 h4 h5, q => .dicT ((q _ List.mem_cons_self).1.trans h1) (q _ List.mem_cons_self).2 e (Owns.keep ef h3 fun a h => q a (List.mem_cons_of_mem _ h)) h4 h5
  | _, _, _, _, .ins h1 h2 h3 h4 e1 e2 h5 h6 h7, q => .ins ((q _ List.mem_cons_self).1.trans h1) (q _ List.mem_cons_self).2 ((q _ (List.mem_cons_of_mem _ List.mem_cons_self)).1.trans h3) (q _ (List.mem_cons_of_mem _ List.mem_cons_self)).2 e1 e2 (Owns.keep ef h5 fun a h => q a (List.mem_cons_of_mem _ (List.mem_cons_of_mem _ h))) h6 h7
theorem Owns.keep (ef : Ex F F') : ∀ {k : Nat} {vs : List V} {ds : List D} {fp : List Addr}, Owns K F H k vs ds fp → (∀ a ∈ fp, H' a = H a ∧ F' a = none) → Owns K F' H' k vs ds fp
  | _, _, _, _, .nil, _ => .nil
  | _, _, _, _, .cons h1 h2 h3, q => .cons (Own.keep ef h1 fun a h => q a (List.mem_append_left _ h)) (Owns.keep ef h2 fun a h => q a (List.mem_append_right _ h)) h3
end
theorem Own.stp {k : Nat} {v : V} {d : D} {fp : List Addr} (h : Own K F H k v d fp) (st : Stp F H F' H') : Own K F' H' k v d fp := h.keep st.ff fun a ha => by
  obtain ⟨h1, o, h2, _, _, nt⟩ := h.loose a ha
  refine ⟨by rw [h2]; exact st.hh.get h2 nt, ?_⟩
  cases q : F' a with
  | none => rfl
  | some u =>
    rcases st.nw a (by rw [q]; exact fun z => nomatch z) with z | z
    · exact absurd h1 z
    · rw [h2] at z; cases z
/-- freezing: F with the objects at fp -/
def frzAt (F H : Hp) (fp : List Addr) : Hp := fun a => if a ∈ fp then H a else F a
theorem frzAt_in {fp : List Addr} {a : Addr} (h : a ∈ fp) : frzAt F H fp a = H a := if_pos h
theorem frzAt_out {fp : List Addr} {a : Addr} (h : a ∉ fp) : frzAt F H fp a = F a := if_neg h
theorem frzAt_ex {fp : List Addr} (hl : ∀ a ∈ fp, F a = none) : Ex F (frzAt F H fp) := .full fun a o h => by
  by_cases z : a ∈ fp
  · rw [hl a z] at h; cases h
  · rw [frzAt_out z]; exact h
theorem frzAt_sub {fp : List Addr} (e : Fh F H) : Fh (frzAt F H fp) H := e.into ⟨fun a o h n => by
  by_cases z : a ∈ fp
  · rw [frzAt_in z] at h; exact h
  · rw [frzAt_out z] at h; exact e.get h n, fun a ps h => by
  by_cases z : a ∈ fp
  · rw [frzAt_in z] at h; exact ⟨ps, h⟩
  · rw [frzAt_out z] at h; exact e.tb a ps h⟩
mutual
theorem Own.dat {G : Hp} (eg : Ex F G) : ∀ {k : Nat} {v : V} {d : D} {fp : List Addr}, Own K F H k v d fp → (∀ a ∈ fp, G a = H a) → Dat K G v d
  | _, _, _, _, .frz h, _ => h.mono eg
  | _, _, _, _, .sc _ h, _ => h.mono eg
  | _, _, _, _, .lst h1 h2 h3 h4 h5, q => .lst ((q _ List.mem_cons_self).trans h1) (Owns.dat eg h3 fun a h => q a (List.mem_cons_of_mem _ h)) h5
  | _, _, _, _, .dic h1 h2 e h3 h4 h5, q => .dic (.of ((q _ List.mem_cons_self).trans h1)) e (Owns.dat eg h3 fun a h => q a (List.mem_cons_of_mem _ h)) h5
  | _, _, _, _, .dicT h1 h2 e h3 h4 h5, q => .dicT ((q _ List.mem_cons_self).trans h1) e (Owns.dat eg h3 fun a h => q a (List.mem_cons_of_mem _ h)) h5
  | _, _, _, _, .ins h1 h2 h3 h4 e1 e2 h5 h6 h7, q => .ins ((q _ List.mem_cons_self).trans h1) ((q _ (List.mem_cons_of_mem _ List.mem_cons_self)).trans h3) e1 e2 (Owns.dat eg h5 fun a h => q a (List.mem_cons_of_mem _ (List.mem_cons_of_mem _ h)))
theorem Owns.dat {G : Hp} (eg : Ex F G) : ∀ {k : Nat} {vs : List V} {ds : List D} {fp : List Addr}, Owns K F H k vs ds fp → (∀ a ∈ fp, G a = H a) → Dats K G vs ds
  | _, _, _, _, .nil, _ => .nil
  | _, _, _, _, .cons h1 h2 _, q => .cons (Own.dat eg h1 fun a h => q a (List.mem_append_left _ h)) (Owns.dat eg h2 fun a h => q a (List.mem_append_right _ h))
end
/-- a freshly made tree, frozen -/
theorem Own.freeze {H0 F0 : Hp} {k : Nat} {v : V} {d : D} {fp : List Addr} (h : Own K F H k v d fp) (st : Stp F0 H0 F H) (fr : ∀ a ∈ fp, H0 a = none) : Stp F0 H0 (frzAt F H fp) H ∧ Dat K (frzAt F H fp) v d := by
  have hl : ∀ a ∈ fp, F a = none := fun a ha => (h.loose a ha).1
  refine ⟨⟨st.ff.trans (frzAt_ex hl), st.hh, frzAt_sub st.fh, fun a q => ?_⟩, h.dat (frzAt_ex hl) fun a ha => frzAt_in ha⟩
  by_cases z : a ∈ fp
  · exact .inr (fr a z)
  · rw [frzAt_out z] at q; exact st.nw a q
end

/-! ### strongest readings -/
def WE (X : Cx) (e : Expr) : TE := fun σ H Q => ∀ pins s, Inv X pins σ H s → wpAny (model X.prog X.w) X.A (eval e X.env) (EP X pins σ Q) X.xe s
theorem pe_W {X : Cx} {e : Expr} : PE X e (WE X e) := ⟨fun pins s _ _ _ I h => h pins s I⟩
theorem w_of {X : Cx} {e : Expr} {t : TE} (h : PE X e t) {σ : L2.St} {H : Hp} {Q : VK} (q : t σ H Q) : WE X e σ H Q := fun pins s I => h.run pins s σ H Q I q
def WT (X : Cx) (e : Expr) : TT := fun σ H Q => ∀ pins s, Inv X pins σ H s → wpAny (model X.prog X.w) X.A (isTrue e X.env (eval e X.env)) (TP X pins σ Q) X.xe s
theorem pt_W {X : Cx} {e : Expr} : PT X e (WT X e) := ⟨fun pins s _ _ _ I h => h pins s I⟩
theorem wt_of {X : Cx} {e : Expr} {t : TT} (h : PT X e t) {σ : L2.St} {H : Hp} {Q : Bool → Hp → Prop} (q : t σ H Q) : WT X e σ H Q := fun pins s I => h.run pins s σ H Q I q
def WS (X : Cx) (st : Stmt) : TS := fun D σ H => ∀ pins s, Inv X pins σ H s → wpAny (model X.prog X.w) X.A (exec st X.env) (SP X pins D) X.xe s
theorem ps_W {X : Cx} {st : Stmt} : PS X st (WS X st) := ⟨fun pins s _ _ _ I h => h pins s I⟩
theorem ws_of {X : Cx} {st : Stmt} {t : TS} (h : PS X st t) {σ : L2.St} {H : Hp} {D : Ends} (q : t D σ H) : WS X st D σ H := fun pins s I => h.run pins s σ H D I q
def WSs (X : Cx) (st : List Stmt) : TS := fun D σ H => ∀ pins s, Inv X pins σ H s → wpAny (model X.prog X.w) X.A (execs st X.env) (SP X pins D) X.xe s
theorem pss_W {X : Cx} {st : List Stmt} : PSs X st (WSs X st) := ⟨fun pins s _ _ _ I h => h pins s I⟩
theorem wss_of {X : Cx} {st : List Stmt} {t : TS} (h : PSs X st t) {σ : L2.St} {H : Hp} {D : Ends} (q : t D σ H) : WSs X st D σ H := fun pins s I => h.run pins s σ H D I q
def WA (X : Cx) (es : List Expr) : TA := fun σ H Q => ∀ pos pins s, Inv X pins σ H s → wpAny (model X.prog X.w) X.A (spliced (backTo pos (starEach es X.env))) (AP X pins σ Q) X.xe s
theorem pa_W {X : Cx} {es : List Expr} : PA X es (WA X es) := ⟨fun pos pins s _ _ _ I h => h pos pins s I⟩
theorem wa_of {X : Cx} {es : List Expr} {t : TA} (h : PA X es t) {σ : L2.St} {H : Hp} {Q : List V → Hp → Prop} (q : t σ H Q) : WA X es σ H Q := fun pos pins s I => h.run pos pins s σ H Q I q

/-! ### evaluation to data -/
/-- e gives d, k deep owned, from any heap over F -/
def EvD (X : Cx) (e : Expr) (σ : L2.St) (F : Hp) (k : Nat) (d : D) : Prop :=
  ∀ F1 H, Ex F F1 → Fh F1 H → ∀ Q : VK, (∀ v F2 H2 fp, Stp F1 H F2 H2 → Own X.K F2 H2 k v d fp → (∀ a ∈ fp, H a = none) → Q v H2) → WE X e σ H Q
def EvZ (X : Cx) (e : Expr) (σ : L2.St) (F : Hp) (d : D) : Prop :=
  ∀ F1 H, Ex F F1 → Fh F1 H → ∀ Q : VK, (∀ v F2 H2, Stp F1 H F2 H2 → Dat X.K F2 v d → Q v H2) → WE X e σ H Q
def EvT (X : Cx) (e : Expr) (σ : L2.St) (F : Hp) (b : Bool) : Prop :=
  ∀ F1 H, Ex F F1 → Fh F1 H → ∀ Q : Bool → Hp → Prop, (∀ F2 H2, Stp F1 H F2 H2 → Q b H2) → WT X e σ H Q
def EvA (X : Cx) (es : List Expr) (σ : L2.St) (F : Hp) (ds : List D) : Prop :=
  ∀ F1 H, Ex F F1 → Fh F1 H → ∀ Q : List V → Hp → Prop, (∀ vs F2 H2, Stp F1 H F2 H2 → Dats X.K F2 vs ds → Q vs H2) → WA X es σ H Q
theorem EvD.z {X : Cx} {e : Expr} {σ : L2.St} {F : Hp} {k : Nat} {d : D} (h : EvD X e σ F k d) : EvZ X e σ F d := fun F1 H e1 e2 Q q =>
  h F1 H e1 e2 Q fun v F2 H2 fp st o fr => by
    obtain ⟨s2, dd⟩ := o.freeze st fr
    exact q v _ H2 s2 dd
theorem EvZ.d {X : Cx} {e : Expr} {σ : L2.St} {F : Hp} {d : D} (h : EvZ X e σ F d) : EvD X e σ F 0 d := fun F1 H e1 e2 Q q =>
  h F1 H e1 e2 Q fun v F2 H2 st dd => q v F2 H2 [] st (.frz dd) (by simp)
theorem EvZ.mono {X : Cx} {e : Expr} {σ : L2.St} {F F' : Hp} {d : D} (h : EvZ X e σ F d) (x : Ex F F') : EvZ X e σ F' d := fun F1 H e1 e2 Q q => h F1 H (x.trans e1) e2 Q q
theorem EvD.mono {X : Cx} {e : Expr} {σ : L2.St} {F F' : Hp} {k : Nat} {d : D} (h : EvD X e σ F k d) (x : Ex F F') : EvD X e σ F' k d := fun F1 H e1 e2 Q q => h F1 H (x.trans e1) e2 Q q
end PV

set_option Elab.async false
set_option linter.all false
set_option maxRecDepth 100000
/-! PV, part B: an own small syntax and its meaning over data. -/
namespace PV
open PySem PySem.Spec PyProof.Rows L2

mutual
def toPy : D → PyData
  | .non => .none | .bl b => .bool b | .int i => .int i | .str x => .str x
  | .lst ds => .list (toPys ds) | .tup ds => .tuple (toPys ds)
  | .rol ns => .list (ns.map PyData.int)
  | .rot ds => .tuple (toPys ds)
  | .dic _ => .dict [] | .dicT _ => .dict [] | .ins _ _ => .dict []
def toPys : List D → List PyData
  | [] => []
  | d :: ds => toPy d :: toPys ds
end
def flat : D → Bool
  | .non => true | .bl _ => true | .int _ => true | .str _ => true
  | _ => false
/-- == of flat data -/
def eqF : D → D → Bool
  | .non, .non => true
  | .bl a, .bl b => a == b
  | .bl a, .int b => (if a then 1 else 0) == b
  | .int a, .bl b => a == (if b then 1 else 0)
  | .int a, .int b => a == b
  | .str a, .str b => a == b
  | _, _ => false
def keyOf : D → Option Key
  | .int i => some (.inl i)
  | .str x => some (.inr x)
  | _ => none
def keysOf : List D → Option (List Key)
  | [] => some []
  | d :: ds => match keyOf d, keysOf ds with
    | some k, some ks => some (k :: ks)
    | _, _ => none
def dOfKey : Key → D
  | .inl i => .int i
  | .inr x => .str x
section
variable {κ : Type} [DecidableEq κ]
def valD (kvs : List (κ × D)) (k : κ) : Option D := (kvs.find? fun kv => decide (kv.1 = k)).map (·.2)
def putD (kvs : List (κ × D)) (k : κ) (v : D) : List (κ × D) :=
  if (kvs.any fun kv => decide (kv.1 = k)) = true then kvs.map fun kv => if kv.1 = k then (kv.1, v) else kv else kvs ++ [(k, v)]
def dropD (kvs : List (κ × D)) (k : κ) : List (κ × D) := kvs.filter fun kv => decide (kv.1 ≠ k)
end
def cutL {α : Type} (xs : List α) (lo hi : Option Int) : List α := (xs.drop (HT.sIx xs.length 0 lo)).take (HT.sIx xs.length xs.length hi - HT.sIx xs.length 0 lo)

inductive Bop | add | sub | mul | fdiv | mod | pow
  deriving DecidableEq
inductive Cop | eq | ne | lt | le | gt | ge | isin | notin | is_ | isnot
  deriving DecidableEq
inductive Bf | len | all | any | list | tuple | lenset | isint | isbool | islist | istuple | isstr | listvals | islt | max | min | sorted | dict
  deriving DecidableEq
inductive Tg | one (i : Nat) | many (is : List Nat)
  deriving DecidableEq

/-- what is called: a def or class of the module, a method -/
inductive Fn | fn (x : Str) | me (c m : Str)
  deriving DecidableEq
/-- globals, what is known of classes -/
structure Glo where
  v : Str → Option D
  fld : Str → Str → Bool
  isi : Str → Str → Option Bool
inductive Exp where
  | var (i : Nat)
  | glob (x : Str)
  | non | bl (b : Bool) | int (i : Int) | str (x : Str)
  | bin (o : Bop) (a b : Exp)
  | neg (a : Exp)
  | nt (a : Exp)
  | and_ (a b : Exp) | or_ (a b : Exp)
  | cmp (o : Cop) (a b : Exp)
  | chain (o p : Cop) (a b c : Exp)
  | ife (t a b : Exp)
  | call (f : Str) (as : Exp) (ks : List Str) (ws : Exp)
  | blt (f : Bf) (a : Exp)
  | index (a b : Exp)
  | fld (a : Exp) (f : Str)
  | meth (a : Exp) (m : Str) (as : Exp) (ks : List Str) (ws : Exp)
  | isC (c : Str) (a : Exp)
  | rev (a : Exp)
  | mx2 (a b : Exp)
  | nett (a b : Exp)
  | sortk (js : List Nat) (a key : Exp)
  | idx (a b : Exp) | slc (a lo hi : Exp)
  | lst (as : Exp) | tup (as : Exp) | dnew | dpair (k v : Exp)
  | lc (own : List Nat) (tg : Tg) (it cond elt : Exp)
  | dc (own : List Nat) (tg : Tg) (it cond k v : Exp)
  | dco (own : List Nat) (tg : Tg) (it cond k v : Exp)
  | rng (a : Exp) | enm (a : Exp) | zp (a b : Exp) | items (a : Exp) | vals (a : Exp)
  | yes | itr (a : Exp) | itn (a : Exp)
  | nil | cons (a b : Exp)
  deriving DecidableEq

/-- it calls nothing -/
def nocallB : Exp → Bool
  | .var _ => true
  | .int _ => true
  | .str _ => true
  | .idx a b => nocallB a && nocallB b
  | _ => false
def addD : D → D → Option (Nat × D)
  | .int i, .int j => some (0, .int (i + j))
  | .str x, .str y => if x.length + y.length ≤ cap then some (0, .str (x ++ y)) else none
  | .lst xs, .lst ys => if xs.length + ys.length ≤ cap then some (1, .lst (xs ++ ys)) else none
  | .tup xs, .tup ys => if xs.length + ys.length ≤ cap then some (0, .tup (xs ++ ys)) else none
  | _, _ => none
def mulD : D → D → Option (Nat × D)
  | .int i, .int j => if (-(2 ^ 64) < i ∧ i < 2 ^ 64) ∨ (-(2 ^ 64) < j ∧ j < 2 ^ 64) then some (0, .int (i * j)) else none
  | .lst xs, .int k => if 0 ≤ k ∧ k ≤ cap ∧ xs.length * k.toNat ≤ cap then some (1, .lst (List.replicate k.toNat xs).flatten) else none
  | _, _ => none
def binD : Bop → D → D → Option (Nat × D)
  | .add, a, b => addD a b
  | .mul, a, b => mulD a b
  | .sub, .int i, .int j => some (0, .int (i - j))
  | .fdiv, .int i, .int j => if 0 < j ∧ j < 1073741824 then some (0, .int (i / j)) else none
  | .mod, .int i, .int j => if 0 < j then some (0, .int (i % j)) else none
  | .pow, .int i, .int j => if 0 ≤ j ∧ j ≤ 1000000 ∧ i.natAbs < 2 ^ 64 then some (0, .int (i ^ j.toNat)) else none
  | _, _, _ => none
/-- the same flat thing -/
def sameF : D → D → Bool
  | .int a, .int b => a == b
  | .str a, .str b => a == b
  | .bl a, .bl b => a == b
  | _, _ => false
def eqD (a b : D) : Option Bool :=
  match a, b with
  | .dic xs, .dic [] => some xs.isEmpty
  | .dic xs, .dic ys => if xs.length = ys.length ∧ (xs.all fun p => match valD ys p.1 with | some d => sameF p.2 d | none => false) = true then some true else none
  | a, b => if SeqAt.shaped (toPy a) = true ∧ SeqAt.shaped (toPy b) = true then some (PyData.eqv (toPy a) (toPy b)) else none
/-- dicts of the same flat things -/
def dicE : D → D → Bool
  | .dic xs, .dic ys => decide (xs.length = ys.length) && xs.all fun p => match valD ys p.1 with | some d => sameF p.2 d | none => false
  | _, _ => false
def pairsE : List D → List D → Bool
  | [], [] => true
  | x :: xs, y :: ys => (sameF x y || dicE x y) && pairsE xs ys
  | _, _ => false
/-- tuples of the same flat things and dicts -/
def tupE : D → D → Bool
  | .tup xs, .tup ys => pairsE xs ys
  | _, _ => false
def inD (x : D) : D → Option Bool
  | .lst ds => if flat x = true ∧ ds.all flat = true then some (ds.any fun y => eqF y x) else none
  | .tup ds => if flat x = true ∧ ds.all flat = true then some (ds.any fun y => eqF y x) else none
  | .rot ds => if flat x = true ∧ ds.all flat = true then some (ds.any fun y => eqF y x) else none
  | .str y => match x with
    | .str z => match z.cps.toList with
      | [c] => some (decide (c ∈ y.cps.toList))
      | _ => none
    | _ => none
  | .dic kvs => match x with
    | .non => some false
    | x => match keyOf x with
      | some k => some (valD kvs k).isSome
      | none => none
  | .dicT kvs => match x with
    | .tup ds => match keysOf ds with
      | some k => some (valD kvs k).isSome
      | none => none
    | _ => none
  | _ => none
def isNon : D → Bool
  | .non => true
  | _ => false
def cmpD : Cop → D → D → Option Bool
  | .eq, a, b => eqD a b
  | .ne, a, b => (eqD a b).map (!·)
  | .lt, .int i, .int j => some (decide (i < j))
  | .le, .int i, .int j => some (decide (i ≤ j))
  | .gt, .int i, .int j => some (decide (j < i))
  | .ge, .int i, .int j => some (decide (j ≤ i))
  | .isin, a, b => inD a b
  | .notin, a, b => (inD a b).map (!·)
  | .is_, a, .non => some (isNon a)
  | .isnot, a, .non => some (!isNon a)
  | .is_, .bl a, .bl b => some (a == b)
  | .isnot, .bl a, .bl b => some (!(a == b))
  | _, _, _ => none
def idxD : D → D → Option D
  | .lst ds, .int i => atI ds i
  | .tup ds, .int i => atI ds i
  | .rot ds, .int i => atI ds i
  | .rol ns, .int i => (atI ns i).map D.int
  | .dic kvs, k => (keyOf k).bind (valD kvs)
  | .str x, .int i => if 0 ≤ i ∧ i < cap then match x.cps[i.toNat]? with
      | some c => some (.str ⟨#[c]⟩)
      | none => none
    else none
  | _, _ => none
def slcD : D → Option Int → Option Int → Option (Nat × D)
  | .lst ds, lo, hi => some (1, .lst (cutL ds lo hi))
  | .tup ds, lo, hi => some (0, .tup (cutL ds lo hi))
  | _, _, _ => none
def intsD : List D → Option (List Int)
  | [] => some []
  | .int i :: ds => (intsD ds).map (i :: ·)
  | _ :: _ => none
def bools : List D → Option (List Bool)
  | [] => some []
  | .bl i :: ds => (bools ds).map (i :: ·)
  | _ :: _ => none
def strsD : List D → Option (List Str)
  | [] => some []
  | .str i :: ds => (strsD ds).map (i :: ·)
  | _ :: _ => none
def keyStrs {α : Type} : List (Key × α) → Option (List Str)
  | [] => some []
  | (.inr x, _) :: r => (keyStrs r).map (x :: ·)
  | _ :: _ => none
/-- texts in order -/
def leS (x y : Str) : Bool := !ltCps y.cps.toList x.cps.toList
def insS (x : Str) : List Str → List Str
  | [] => [x]
  | y :: r => if leS x y = true then x :: y :: r else y :: insS x r
def sortS : List Str → List Str
  | [] => []
  | x :: r => insS x (sortS r)
/-- by whole numbers, steady -/
def insK {α : Type} (x : Int × α) : List (Int × α) → List (Int × α)
  | [] => [x]
  | y :: r => if x.1 ≤ y.1 then x :: y :: r else y :: insK x r
def sortK {α : Type} : List (Int × α) → List (Int × α)
  | [] => []
  | x :: r => insK x (sortK r)
def maxI : List Int → Option Int
  | [] => none
  | x :: r => some (r.foldl max x)
def minI : List Int → Option Int
  | [] => none
  | x :: r => some (r.foldl min x)
def lenD : D → Option Int
  | .lst ds => some ds.length
  | .tup ds => some ds.length
  | .rot ds => some ds.length
  | .rol ns => some ns.length
  | .dic kvs => some kvs.length
  | .str x => if x.length ≤ cap then some x.length else none
  | _ => none
def isIntD (d : D) : Bool := match d with | .int _ => true | .bl _ => true | _ => false
def isBlD (d : D) : Bool := match d with | .bl _ => true | _ => false
def isLstD (d : D) : Bool := match d with | .lst _ => true | .rol _ => true | _ => false
def isTupD (d : D) : Bool := match d with | .tup _ => true | .rot _ => true | _ => false
def isStrD (d : D) : Bool := match d with | .str _ => true | _ => false
def isLtD (d : D) : Bool := match d with | .lst _ => true | .rol _ => true | .tup _ => true | .rot _ => true | _ => false
def isIns : D → Bool
  | .ins _ _ => true
  | _ => false
def tyIs (b : Bool) (d : D) : Option (Nat × D) := if isIns d = true then none else some (0, .bl b)
def setSize (ns : List Int) : Int := ((PyProof.Rows.firstMet (fun i => ns.getD i 0) ns.length).length : Nat)
/-- how many unlike texts -/
def unlikeS : List Str → Nat
  | [] => 0
  | x :: r => unlikeS r + if x ∈ r then 0 else 1
def bltD : Bf → D → Option (Nat × D)
  | .len, d => (lenD d).map fun n => (0, .int n)
  | .all, .lst ds => (bools ds).map fun bs => (0, .bl (bs.all id))
  | .any, .lst ds => (bools ds).map fun bs => (0, .bl (bs.any id))
  | .list, .lst ds => some (1, .lst ds)
  | .list, .tup ds => some (1, .lst ds)
  | .list, .rot ds => some (1, .lst ds)
  | .list, .dic kvs => some (1, .lst (kvs.map fun kv => dOfKey kv.1))
  | .listvals, .dic kvs => some (1, .lst (kvs.map (·.2)))
  | .tuple, .lst ds => some (0, .tup ds)
  | .tuple, .tup ds => some (0, .tup ds)
  | .lenset, .lst ds => match intsD ds with
    | some ns => if ns.length ≤ 4000 then some (0, .int (setSize ns)) else none
    | none => match strsD ds with
      | some xs => if xs.length ≤ 60 then some (0, .int (unlikeS xs : Nat)) else none
      | none => none
  | .islt, d => tyIs (isLtD d) d
  | .max, .lst ds => match intsD ds with
    | some ns => (maxI ns).map fun m => (0, .int m)
    | none => none
  | .min, .lst ds => match intsD ds with
    | some ns => (minI ns).map fun m => (0, .int m)
    | none => none
  | .sorted, .lst ds => match strsD ds with
    | some xs => if xs.length < 64 then some (1, .lst ((sortS xs).map .str)) else none
    | none => none
  | .sorted, .dic kvs => match keyStrs kvs with
    | some xs => if xs.length < 64 then some (1, .lst ((sortS xs).map .str)) else none
    | none => none
  | .dict, .dic kvs => some (1, .dic kvs)
  | .isint, d => tyIs (isIntD d) d
  | .isbool, d => tyIs (isBlD d) d
  | .islist, d => tyIs (isLstD d) d
  | .istuple, d => tyIs (isTupD d) d
  | .isstr, d => tyIs (isStrD d) d
  | _, _ => none
def indexD : List D → D → Option Nat
  | [], _ => none
  | y :: ys, x => if eqF y x = true then some 0 else (indexD ys x).map (· + 1)

abbrev Ro := List (Option D)
def wipeR (ρ : Ro) : List Nat → Ro
  | [] => ρ
  | i :: is => (wipeR ρ is).set i none
def asgs : List Nat → List D → Ro → Ro
  | i :: is, d :: ds, ρ => asgs is ds (ρ.set i (some d))
  | _, _, ρ => ρ
def asg : Tg → D → Ro → Option Ro
  | .one i, d, ρ => some (ρ.set i (some d))
  | .many is, .tup ds, ρ => if ds.length = is.length then some (asgs is ds ρ) else none
  | .many _, _, _ => none
/-- the turns of a list comprehension -/
def lcL (tg : Tg) (t : Ro → Option (Nat × D)) (g : Ro → Option (Nat × D)) (ρ : Ro) : List D → Option (List D)
  | [] => some []
  | d :: ds => match asg tg d ρ with
    | none => none
    | some ρ1 => match t ρ1 with
      | some (_, .bl true) => match g ρ1 with
        | some (_, y) => match lcL tg t g ρ ds with
          | some ys => some (y :: ys)
          | none => none
        | none => none
      | some (_, .bl false) => lcL tg t g ρ ds
      | _ => none
/-- the turns of a dict comprehension -/
def dcL (tg : Tg) (t : Ro → Option (Nat × D)) (gk gv : Ro → Option (Nat × D)) (ρ : Ro) : List D → List (Key × D) → Option (List (Key × D))
  | [], acc => some acc
  | d :: ds, acc => match asg tg d ρ with
    | none => none
    | some ρ1 => match t ρ1 with
      | some (_, .bl true) => match gk ρ1, gv ρ1 with
        | some (_, k), some (_, v) => match keyOf k with
          | some k => dcL tg t gk gv ρ ds (putD acc k v)
          | none => none
        | _, _ => none
      | some (_, .bl false) => dcL tg t gk gv ρ ds acc
      | _ => none
/-- the turns of a dict comprehension that owns its values -/
def dcoL (tg : Tg) (t : Ro → Option (Nat × D)) (gk gv : Ro → Option (Nat × D)) (ρ : Ro) : List D → List (Key × D) → Option (List (Key × D))
  | [], acc => some acc
  | d :: ds, acc => match asg tg d ρ with
    | none => none
    | some ρ1 => match t ρ1 with
      | some (_, .bl true) => match gk ρ1, gv ρ1 with
        | some (_, k), some (1, v) => match keyOf k with
          | some k => dcoL tg t gk gv ρ ds (putD acc k v)
          | none => none
        | _, _ => none
      | some (_, .bl false) => dcoL tg t gk gv ρ ds acc
      | _ => none
def enumD (n : Nat) : List D → List D
  | [] => []
  | d :: ds => .tup [.int n, d] :: enumD (n + 1) ds
def zipD : List D → List D → List D
  | a :: as, b :: bs => .tup [a, b] :: zipD as bs
  | _, _ => []
def itemsD (kvs : List (Key × D)) : List D := kvs.map fun kv => .tup [dOfKey kv.1, kv.2]
def charsD (x : Str) : List D := x.cps.toList.map fun c => .str ⟨#[c]⟩
/-- the keys of the items, by a function -/
def keysL (f : D → Option (Nat × D)) : List D → Option (List (Int × D))
  | [] => some []
  | d :: ds => match f d with
    | some (_, .int i) => (keysL f ds).map ((i, d) :: ·)
    | _ => none
def rngD (n : Int) : List D := (List.range n.toNat).map fun i => .int (i : Nat)

section
/-! the defs: name, positional arguments, keywords -/
variable (C : Fn → List D → List Str → List D → Option (Nat × D)) (G : Glo)
mutual
def ev : Exp → Ro → Option (Nat × D)
  | .var i, ρ => match ρ[i]? with
    | some (some d) => some (0, d)
    | _ => none
  | .glob x, _ => (G.v x).map fun d => (0, d)
  | .non, _ => some (0, .non)
  | .bl b, _ => some (0, .bl b)
  | .int i, _ => some (0, .int i)
  | .str x, _ => some (0, .str x)
  | .bin o a b, ρ => match ev a ρ, ev b ρ with
    | some (_, x), some (_, y) => binD o x y
    | _, _ => none
  | .neg a, ρ => match ev a ρ with
    | some (_, .int i) => some (0, .int (-i))
    | _ => none
  | .nt a, ρ => match ev a ρ with
    | some (_, .bl b) => some (0, .bl (!b))
    | _ => none
  | .and_ a b, ρ => match ev a ρ with
    | some (_, .bl true) => match ev b ρ with
      | some (_, .bl c) => some (0, .bl c)
      | _ => none
    | some (_, .bl false) => some (0, .bl false)
    | _ => none
  | .or_ a b, ρ => match ev a ρ with
    | some (_, .bl false) => match ev b ρ with
      | some (_, .bl c) => some (0, .bl c)
      | _ => none
    | some (_, .bl true) => some (0, .bl true)
    | _ => none
  | .cmp o a b, ρ => match ev a ρ, ev b ρ with
    | some (_, x), some (_, y) => (cmpD o x y).map fun c => (0, .bl c)
    | _, _ => none
  | .chain o p a b c, ρ => match ev a ρ, ev b ρ with
    | some (_, x), some (_, y) => match cmpD o x y with
      | some true => match ev c ρ with
        | some (_, z) => (cmpD p y z).map fun c => (0, .bl c)
        | none => none
      | some false => some (0, .bl false)
      | none => none
    | _, _ => none
  | .ife t a b, ρ => match ev t ρ with
    | some (_, .bl true) => ev a ρ
    | some (_, .bl false) => ev b ρ
    | _ => none
  | .call f as ks ws, ρ => match evs as ρ, evs ws ρ with
    | some ds, some es => C (.fn f) ds ks es
    | _, _ => none
  | .fld a f, ρ => match ev a ρ with
    | some (_, .ins c fs) => if G.fld c f = true then (fs.lookup f).map fun d => (0, d) else none
    | _ => none
  | .meth a m as ks ws, ρ => match ev a ρ, evs as ρ, evs ws ρ with
    | some (_, .ins c fs), some ds, some es => if (fs.lookup m).isNone = true then C (.me c m) (.ins c fs :: ds) ks es else none
    | _, _, _ => none
  | .isC x a, ρ => match ev a ρ with
    | some (_, .ins c _) => (G.isi c x).map fun b => (0, .bl b)
    | _ => none
  | .rev a, ρ => match ev a ρ with
    | some (_, .lst ds) => some (1, .lst ds.reverse)
    | _ => none
  | .nett a b, ρ => match ev a ρ, ev b ρ with
    | some (_, x), some (_, y) => if tupE x y = true then some (0, .bl false) else none
    | _, _ => none
  | .mx2 a b, ρ => match ev a ρ, ev b ρ with
    | some (_, .int i), some (_, .int j) => some (0, .int (if j > i then j else i))
    | _, _ => none
  | .sortk js a key, ρ => match ev a ρ with
    | some (_, .dic kvs) => match keyStrs kvs with
      | some xs => match keysL (fun d => ev key (some d :: js.map fun j => (ρ[j]?).join)) (xs.map .str) with
        | some ks => if xs.length < 64 then some (1, .lst ((sortK ks).map (·.2))) else none
        | none => none
      | none => none
    | _ => none
  | .blt f a, ρ => match ev a ρ with
    | some (_, d) => bltD f d
    | none => none
  | .index a b, ρ => match ev a ρ, ev b ρ with
    | some (_, .lst ds), some (_, x) => if flat x = true ∧ ds.all flat = true then (indexD ds x).map fun n => (0, .int (n : Nat)) else none
    | _, _ => none
  | .idx a b, ρ => match ev a ρ, ev b ρ with
    | some (_, x), some (_, y) => (idxD x y).map fun d => (0, d)
    | _, _ => none
  | .slc a lo hi, ρ => match ev a ρ, evO lo ρ, evO hi ρ with
    | some (_, x), some l, some h => slcD x l h
    | _, _, _ => none
  | .lst as, ρ => match evs as ρ with
    | some ds => if ds.length ≤ cap then some (1, .lst ds) else none
    | none => none
  | .tup as, ρ => match evs as ρ with
    | some ds => if ds.length ≤ cap then some (0, .tup ds) else none
    | none => none
  | .dnew, _ => some (1, .dic [])
  | .dpair k v, ρ => match ev k ρ, ev v ρ with
    | some (_, .tup ks), some (_, v) => match keysOf ks with
      | some k => some (1, .dicT [(k, v)])
      | none => none
    | some (_, .str x), some (_, v) => some (1, .dic [(.inr x, v)])
    | _, _ => none
  | .lc own tg it cond elt, ρ => match evI it ρ with
    | some ds => (lcL tg (fun r => ev cond r) (fun r => ev elt r) (wipeR ρ own) ds).map fun ys => (1, .lst ys)
    | none => none
  | .dc own tg it cond k v, ρ => match evI it ρ with
    | some ds => (dcL tg (fun r => ev cond r) (fun r => ev k r) (fun r => ev v r) (wipeR ρ own) ds []).map fun ys => (1, .dic ys)
    | none => none
  | .dco own tg it cond k v, ρ => match evI it ρ with
    | some ds => (dcoL tg (fun r => ev cond r) (fun r => ev k r) (fun r => ev v r) (wipeR ρ own) ds []).map fun ys => (2, .dic ys)
    | none => none
  | .yes, _ => some (0, .bl true)
  | .itr _, _ => none
  | .itn _, _ => none
  | .rng _, _ => none
  | .enm _, _ => none
  | .zp _ _, _ => none
  | .items _, _ => none
  | .vals _, _ => none
  | .nil, _ => none
  | .cons _ _, _ => none
def evs : Exp → Ro → Option (List D)
  | .nil, _ => some []
  | .cons a b, ρ => match ev a ρ, evs b ρ with
    | some (_, d), some ds => some (d :: ds)
    | _, _ => none
  | _, _ => none
/-- the items that are walked -/
def evI : Exp → Ro → Option (List D)
  | .rng a, ρ => match ev a ρ with
    | some (_, .int n) => if n ≤ cap ∧ -(2 ^ 62) ≤ n then some (rngD n) else none
    | _ => none
  | .enm a, ρ => match ev a ρ with
    | some (_, .lst ds) => some (enumD 0 ds)
    | _ => none
  | .zp a b, ρ => match ev a ρ, ev b ρ with
    | some (_, .lst ds), some (_, .lst es) => some (zipD ds es)
    | _, _ => none
  | .itn e, ρ => match ev e ρ with
    | some (_, .lst ds) => some ds
    | some (_, .tup ds) => some ds
    | some (_, .rot ds) => some ds
    | _ => none
  | .items e, ρ => match ev e ρ with
    | some (_, .dic kvs) => some (itemsD kvs)
    | _ => none
  | .vals e, ρ => match ev e ρ with
    | some (_, .dic kvs) => some (kvs.map (·.2))
    | _ => none
  | .itr e, ρ => match ev e ρ with
    | some (_, .lst ds) => some ds
    | some (_, .tup ds) => some ds
    | some (_, .rot ds) => some ds
    | some (_, .str x) => if x.length ≤ cap then some (charsD x) else none
    | some (_, .dic kvs) => match e with
      | .var _ => some (kvs.map fun kv => dOfKey kv.1)
      | _ => none
    | _ => none
  | _, _ => none
def evO : Exp → Ro → Option (Option Int)
  | .nil, _ => some none
  | .itr e, ρ => match ev e ρ with
    | some (_, .int i) => some (some i)
    | _ => none
  | _, _ => none
end
end
theorem ev_nocall {C C' : Fn → List D → List Str → List D → Option (Nat × D)} {G : Glo} : ∀ {E : Exp} (ρ : Ro), nocallB E = true → ev C G E ρ = ev C' G E ρ
  | .var i, ρ, _ => by simp only [ev]
  | .int i, ρ, _ => by simp only [ev]
  | .str i, ρ, _ => by simp only [ev]
  | .idx a b, ρ, h => by
    have h' : (nocallB a && nocallB b) = true := h
    rw [Bool.and_eq_true] at h'
    simp only [ev]
    rw [ev_nocall (C := C) (C' := C') ρ h'.1, ev_nocall (C := C) (C' := C') ρ h'.2]
theorem keysL_spec {f : D → Option (Nat × D)} : ∀ {ds : List D} {ks : List (Int × D)}, keysL f ds = some ks → ks.map (·.2) = ds ∧ ∀ (i : Nat) (k : Int) (x : D), (ks.map (·.1))[i]? = some k → ds[i]? = some x → ∃ j, f x = some (j, .int k)
  | [], ks, h => by cases h; exact ⟨rfl, fun i k x h => by simp at h⟩
  | d :: ds, ks, h => by
    unfold keysL at h
    split at h
    · rename_i j i hf
      obtain ⟨ks', hk, rfl⟩ := Option.map_eq_some_iff.mp h
      obtain ⟨h1, h2⟩ := keysL_spec hk
      refine ⟨by rw [List.map_cons, h1], fun n k x a b => ?_⟩
      cases n with
      | zero => simp at a b; subst a b; exact ⟨j, hf⟩
      | succ n => exact h2 n k x (by simpa using a) (by simpa using b)
    · cases h
theorem zip_parts {α β : Type} : ∀ l : List (α × β), (l.map (·.1)).zip (l.map (·.2)) = l
  | [] => rfl
  | p :: r => by rw [List.map_cons, List.map_cons, List.zip_cons_cons, zip_parts r]
end PV

set_option Elab.async false
set_option linter.all false
set_option maxRecDepth 100000
set_option maxHeartbeats 1000000
/-! PV, part C: the rules for expressions. -/
namespace PV
open PySem PySem.Spec PyProof.Rows L2
variable [Tabl]

/-! ### strongest readings of operators -/
def WO (X : Cx) (f : Value → Value → Sem Value) : R2 := fun x y H Q => ∀ pins s σ v u, Inv X pins σ H s → RelV x v → RelV y u → wpAny (model X.prog X.w) X.A (f v u) (EP X pins σ Q) X.xe s
theorem op_W {X : Cx} {f : Value → Value → Sem Value} : OpR X f (WO X f) := fun pins s σ H x y v u Q I rx ry h => h pins s σ v u I rx ry
theorem wo_of {X : Cx} {f : Value → Value → Sem Value} {r : R2} (h : OpR X f r) {x y : V} {H : Hp} {Q : VK} (q : r x y H Q) : WO X f x y H Q := fun pins s σ v u I rx ry => h pins s σ H x y v u Q I rx ry q
def WC (X : Cx) (f : Value) : List V → Hp → VK → Prop := fun xs H Q => ∀ pins s σ us, Inv X pins σ H s → Vals xs us → wpAny (model X.prog X.w) X.A (call f us) (EP X pins σ Q) X.xe s
theorem cr_W {X : Cx} {f : Value} : CallR X f (WC X f) := fun pins s σ H xs us Q I r h => h pins s σ us I r
theorem wc_of {X : Cx} {f : Value} {r : List V → Hp → VK → Prop} (h : CallR X f r) {xs : List V} {H : Hp} {Q : VK} (q : r xs H Q) : WC X f xs H Q := fun pins s σ us I rv => h pins s σ H xs us Q I rv q

section
variable {X : Cx} {e a b c : Expr} {σ : L2.St} {F F1 H : Hp} {d x y z : D} {k : Nat} {pos : Pos}

/-! ### new objects -/
theorem own_lst {K : PySem.W.Frag} {F H : Hp} {p : Addr} {vs : List V} {ds : List D} (fh : Ex F H) (hp : H p = none) (h : Dats K F vs ds) (hl : ds.length ≤ cap) : Own K F (upd H p (.lst vs)) 1 (.ref p) (.lst ds) [p] :=
  .lst upd_same (fh.free hp) (owns_zero h) (by simp) hl
theorem own_dic {K : PySem.W.Frag} {F H : Hp} {p : Addr} {kvs : List (Key × V)} {ds : List (Key × D)} (fh : Ex F H) (hp : H p = none) (e : kvs.map (·.1) = ds.map (·.1)) (h : Dats K F (kvs.map (·.2)) (ds.map (·.2))) (hl : ds.length ≤ cap) : Own K F (upd H p (.dK kvs)) 1 (.ref p) (.dic ds) [p] :=
  .dic upd_same (fh.free hp) e (owns_zero h) (by simp) hl
theorem dat_tup {K : PySem.W.Frag} {F H : Hp} {p : Addr} {vs : List V} {ds : List D} (fh : Ex F H) (hp : H p = none) (h : Dats K F vs ds) (hl : ds.length ≤ cap) : Dat K (upd F p (.tup vs)) (.ref p) (.tup ds) :=
  .tup upd_same (h.mono (.new (fh.free hp))) hl
/-- hand over a new list -/
theorem give_lst {Q : VK} {F2 H2 : Hp} {p : Addr} {vs : List V} {ds : List D}
    (q : ∀ v F2 H2 fp, Stp F1 H F2 H2 → Own X.K F2 H2 1 v (.lst ds) fp → (∀ a ∈ fp, H a = none) → Q v H2) (st : Stp F1 H F2 H2) (hp : H2 p = none) (h : Dats X.K F2 vs ds) (hl : ds.length ≤ cap) : Q (.ref p) (upd H2 p (.lst vs)) :=
  q _ _ _ [p] (st.trans (.loose st.fh hp)) (own_lst st.fh hp h hl) (fun a ha => by
    have e : a = p := by simpa using ha
    rw [e]; exact st.hh.free hp)
theorem give_dic {Q : VK} {F2 H2 : Hp} {p : Addr} {kvs : List (Key × V)} {ds : List (Key × D)}
    (q : ∀ v F2 H2 fp, Stp F1 H F2 H2 → Own X.K F2 H2 1 v (.dic ds) fp → (∀ a ∈ fp, H a = none) → Q v H2) (st : Stp F1 H F2 H2) (hp : H2 p = none) (e : kvs.map (·.1) = ds.map (·.1)) (h : Dats X.K F2 (kvs.map (·.2)) (ds.map (·.2))) (hl : ds.length ≤ cap) : Q (.ref p) (upd H2 p (.dK kvs)) :=
  q _ _ _ [p] (st.trans (.loose st.fh hp)) (own_dic st.fh hp e h hl) (fun a ha => by
    have e : a = p := by simpa using ha
    rw [e]; exact st.hh.free hp)
theorem give_tup {Q : VK} {F2 H2 : Hp} {p : Addr} {vs : List V} {ds : List D}
    (q : ∀ v F2 H2 fp, Stp F1 H F2 H2 → Own X.K F2 H2 0 v (.tup ds) fp → (∀ a ∈ fp, H a = none) → Q v H2) (st : Stp F1 H F2 H2) (hp : H2 p = none) (h : Dats X.K F2 vs ds) (hl : ds.length ≤ cap) : Q (.ref p) (upd H2 p (.tup vs)) :=
  q _ _ _ [] (st.trans (.new st.fh hp)) (.frz (dat_tup st.fh hp h hl)) (by simp)
theorem give {Q : VK} {F2 H2 : Hp} {v : V} (q : ∀ v F2 H2 fp, Stp F1 H F2 H2 → Own X.K F2 H2 0 v d fp → (∀ a ∈ fp, H a = none) → Q v H2) (st : Stp F1 H F2 H2) (h : Dat X.K F2 v d) : Q v H2 :=
  q v F2 H2 [] st (.frz h) (by simp)

/-! ### two in a row -/
theorem ev2 (ha : EvZ X a σ F x) (hb : EvZ X b σ F y) (e1 : Ex F F1) (e2 : Fh F1 H) {R : V → V → Hp → Prop} (h : ∀ v u F2 H2, Stp F1 H F2 H2 → Dat X.K F2 v x → Dat X.K F2 u y → R v u H2) :
    WE X a σ H fun v H1 => WE X b σ H1 fun u H2 => R v u H2 :=
  ha F1 H e1 e2 _ fun v F2 H2 st1 d1 => hb F2 H2 (e1.trans st1.ff) st1.fh _ fun u F3 H3 st2 d2 => h v u F3 H3 (st1.trans st2) (d1.mono st2.ff) d2

/-! ### names, constants -/
theorem ev_var {i : Nat} {n : Str} {v : V} (hN : X.N[i]? = some n) (hv : Vis X.env.scope n) (hd : (n == ("__debug__" : Str)) = false) (hcd : (n == ("__classdict__" : Str)) = false) (hs : σ[i]? = some (some v)) (h : Dat X.K F v d) : EvD X (.Name n pos) σ F 0 d :=
  fun F1 H e1 e2 Q q => w_of (pe_var hN hv hd hcd) ⟨v, hs, give q (.refl e2) (h.mono e1)⟩
theorem ev_glob {n : Str} {v : V} {u : Value} (hg : Gl X n) (hm : X.mg n = some u) (r : RelV v u) (h : ∀ F, Dat X.K F v d) (hd : (n == ("__debug__" : Str)) = false) : EvD X (.Name n pos) σ F 0 d :=
  fun F1 H e1 e2 Q q => w_of (pe_glob hg hm r hd) (show Q v H from give q (.refl e2) (h _))
theorem ev_int {i : Int} {j : Nat} : EvD X (.Constant (.int i) j pos) σ F 0 (.int i) := fun F1 H e1 e2 Q q => w_of pe_int (show Q (.int i) H from give q (.refl e2) (.int i))
theorem ev_bl {i : Bool} {j : Nat} : EvD X (.Constant (.bool i) j pos) σ F 0 (.bl i) := fun F1 H e1 e2 Q q => w_of pe_bl (show Q (.bl i) H from give q (.refl e2) (.bl i))
theorem ev_non {j : Nat} : EvD X (.Constant .none j pos) σ F 0 .non := fun F1 H e1 e2 Q q => w_of pe_non (show Q .non H from give q (.refl e2) .non)
theorem ev_str {i : Str} {j : Nat} : EvD X (.Constant (.str i) j pos) σ F 0 (.str i) := fun F1 H e1 e2 Q q => w_of pe_str (show Q (.str i) H from give q (.refl e2) (.str i))

/-! ### arithmetic, +, * -/
theorem ev_opI {op : Operator} {r : R2} {i j l : Int} (ho : OpR X (binaryOp op) r) (hr : ∀ H Q, Q (.int l) H → r (.int i) (.int j) H Q) (ha : EvZ X a σ F (.int i)) (hb : EvZ X b σ F (.int j)) : EvD X (.BinOp a op b pos) σ F 0 (.int l) :=
  fun F1 H e1 e2 Q q => w_of (pe_op ho pe_W pe_W) (ev2 ha hb e1 e2 fun v u F2 H2 st d1 d2 => by
    cases d1; cases d2
    exact hr H2 Q (give q st (.int l)))
theorem Dats.flat_rep {K : PySem.W.Frag} {F : Hp} {vs : List V} {ds : List D} (h : Dats K F vs ds) : ∀ n : Nat, Dats K F (List.replicate n vs).flatten (List.replicate n ds).flatten
  | 0 => .nil
  | n + 1 => by rw [List.replicate_succ, List.replicate_succ, List.flatten_cons, List.flatten_cons]; exact h.app (flat_rep h n)
theorem ev_add (ha : EvZ X a σ F x) (hb : EvZ X b σ F y) (h : addD x y = some (k, d)) : EvD X (.BinOp a .Add b pos) σ F k d := by
  intro F1 H e1 e2 Q q
  unfold addD at h
  split at h
  · cases h
    exact ev_opI op_add (fun H Q q => ⟨_, _, rfl, rfl, q⟩) ha hb F1 H e1 e2 Q q
  · split at h
    · cases h
      rename_i hl
      refine w_of (pe_op op_add_str pe_W pe_W) (ev2 ha hb e1 e2 fun v u F2 H2 st d1 d2 => ?_)
      cases d1; cases d2
      exact ⟨_, _, rfl, rfl, cap_le hl, give q st (.str _)⟩
    · cases h
  · split at h
    · cases h
      rename_i hl
      refine w_of (pe_op op_cat pe_W pe_W) (ev2 ha hb e1 e2 fun v u F2 H2 st d1 d2 => ?_)
      cases d1 with
      | lst h1 h2 h3 =>
        cases d2 with
        | lst g1 g2 g3 =>
          have l1 := h2.length
          have l2 := g2.length
          exact ⟨_, _, _, _, rfl, rfl, st.fh.get h1, st.fh.get g1, cap_le (by omega), fun p hp => give_lst q st hp (h2.app g2) (by rw [List.length_append]; omega)⟩
    · cases h
  · split at h
    · cases h
      rename_i hl
      refine w_of (pe_op op_catA pe_W pe_W) (ev2 ha hb e1 e2 fun v u F2 H2 st d1 d2 => ?_)
      cases d1 with
      | tup h1 h2 h3 =>
        cases d2 with
        | tup g1 g2 g3 =>
          have l1 := h2.length
          have l2 := g2.length
          refine ⟨_, _, _, _, rfl, rfl, .of (st.fh.get h1), .of (st.fh.get g1), cap_le (by omega), fun e => ?_, fun e e' => ?_, fun e e' p hp => give_tup q st hp (h2.app g2) (by rw [List.length_append]; omega)⟩
          · subst e
            cases h2
            exact give q st (.tup g1 g2 g3)
          · subst e'
            cases g2
            rw [List.append_nil] at q
            exact give q st (.tup h1 h2 h3)
    · cases h
  · cases h
theorem ev_mul (ha : EvZ X a σ F x) (hb : EvZ X b σ F y) (h : mulD x y = some (k, d)) : EvD X (.BinOp a .Mult b pos) σ F k d := by
  intro F1 H e1 e2 Q q
  unfold mulD at h
  split at h
  · split at h
    · cases h
      rename_i hl
      exact ev_opI op_mul (fun H Q q => ⟨_, _, rfl, rfl, hl, q⟩) ha hb F1 H e1 e2 Q q
    · cases h
  · split at h
    · cases h
      rename_i ds n hl
      refine w_of (pe_op op_rep pe_W pe_W) (ev2 ha hb e1 e2 fun v u F2 H2 st d1 d2 => ?_)
      cases d1 with
      | lst h1 h2 h3 =>
        cases d2
        have l1 := h2.length
        refine ⟨_, _, _, rfl, rfl, st.fh.get h1, ?_, ?_, cap_le (by rw [l1]; exact hl.2.2), fun p hp => give_lst q st hp (h2.flat_rep _) ?_⟩
        · have := hl.1; omega
        · have := hl.2.1; have : (cap : Int) = 100000 := rfl; omega
        · rw [List.length_flatten, List.map_replicate, List.sum_replicate_nat, Nat.mul_comm]; exact hl.2.2
    · cases h
  · cases h
theorem if_some {c : Prop} [Decidable c] {α : Type} {x y : α} (h : (if c then some x else none) = some y) : c ∧ x = y := by
  by_cases hc : c
  · rw [if_pos hc] at h; exact ⟨hc, Option.some.inj h⟩
  · rw [if_neg hc] at h; cases h
def opOf : Bop → Operator
  | .add => .Add | .sub => .Sub | .mul => .Mult | .fdiv => .FloorDiv | .mod => .Mod | .pow => .Pow
theorem ev_bin {o : Bop} (ha : EvZ X a σ F x) (hb : EvZ X b σ F y) (h : binD o x y = some (k, d)) : EvD X (.BinOp a (opOf o) b pos) σ F k d := by
  cases o with
  | add => exact ev_add ha hb h
  | mul => exact ev_mul ha hb h
  | sub =>
    cases x <;> try (cases (show (none : Option (Nat × D)) = some (k, d) from h))
    cases y <;> try (cases (show (none : Option (Nat × D)) = some (k, d) from h))
    cases h
    exact ev_opI op_sub (fun H Q q => ⟨_, _, rfl, rfl, q⟩) ha hb
  | fdiv =>
    cases x <;> try (cases (show (none : Option (Nat × D)) = some (k, d) from h))
    cases y <;> try (cases (show (none : Option (Nat × D)) = some (k, d) from h))
    rename_i i j
    obtain ⟨hl, e⟩ := if_some (show (if 0 < j ∧ j < 1073741824 then some (0, D.int (i / j)) else none) = some (k, d) from h)
    cases e
    exact ev_opI op_fdiv (fun H Q q => ⟨_, _, rfl, rfl, hl, q⟩) ha hb
  | mod =>
    cases x <;> try (cases (show (none : Option (Nat × D)) = some (k, d) from h))
    cases y <;> try (cases (show (none : Option (Nat × D)) = some (k, d) from h))
    rename_i i j
    obtain ⟨hl, e⟩ := if_some (show (if 0 < j then some (0, D.int (i % j)) else none) = some (k, d) from h)
    cases e
    exact ev_opI op_mod (fun H Q q => ⟨_, _, rfl, rfl, hl, q⟩) ha hb
  | pow =>
    cases x <;> try (cases (show (none : Option (Nat × D)) = some (k, d) from h))
    cases y <;> try (cases (show (none : Option (Nat × D)) = some (k, d) from h))
    rename_i i j
    obtain ⟨hl, e⟩ := if_some (show (if 0 ≤ j ∧ j ≤ 1000000 ∧ i.natAbs < 2 ^ 64 then some (0, D.int (i ^ j.toNat)) else none) = some (k, d) from h)
    cases e
    exact ev_opI op_pow (fun H Q q => ⟨_, _, rfl, rfl, hl, q⟩) ha hb
theorem ev_neg {i : Int} (ha : EvZ X a σ F (.int i)) : EvD X (.UnaryOp .USub a pos) σ F 0 (.int (-i)) := fun F1 H e1 e2 Q q => w_of (pe_un un_neg pe_W) (ha F1 H e1 e2 _ fun v F2 H2 st d1 => by
  cases d1
  exact ⟨_, rfl, give q st (.int _)⟩)

/-! ### tests -/
theorem EvT.val {t : Bool} (h : EvZ X e σ F (.bl t)) (he : ∀ whole, isTrue e X.env whole = (do let v ← whole; standAt e.pos; holding [v] (truthy v))) : EvT X e σ F t := fun F1 H e1 e2 Q q => wt_of (pt_val pe_W he) (h F1 H e1 e2 _ fun v F2 H2 st d1 => by
  cases d1
  exact ⟨_, rfl, q F2 H2 st⟩)
theorem ev_not {t : Bool} (h : EvZ X e σ F (.bl t)) : EvD X (.UnaryOp .Not e pos) σ F 0 (.bl (!t)) := fun F1 H e1 e2 Q q => w_of (pe_not pe_W) (h F1 H e1 e2 _ fun v F2 H2 st d1 => by
  cases d1
  exact ⟨_, rfl, give q st (.bl _)⟩)
theorem et_not {t : Bool} (h : EvT X e σ F t) : EvT X (.UnaryOp .Not e pos) σ F (!t) := fun F1 H e1 e2 Q q => wt_of (pt_not pt_W) (h F1 H e1 e2 _ fun F2 H2 st => q F2 H2 st)
theorem ev_ife {t : Bool} {c a b : Expr} (hc : EvT X c σ F t) (ht : t = true → EvD X a σ F k d) (hf : t = false → EvD X b σ F k d) : EvD X (.IfExp c a b pos) σ F k d := fun F1 H e1 e2 Q q => w_of (pe_ifExp pt_W pe_W pe_W) (hc F1 H e1 e2 _ fun F2 H2 st => by
  cases t with
  | true => exact iteT (ht rfl F2 H2 (e1.trans st.ff) st.fh _ fun v F3 H3 fp s2 o fr => q v F3 H3 fp (st.trans s2) o fun a ha => st.hh.free (fr a ha))
  | false => exact iteF (hf rfl F2 H2 (e1.trans st.ff) st.fh _ fun v F3 H3 fp s2 o fr => q v F3 H3 fp (st.trans s2) o fun a ha => st.hh.free (fr a ha)))
end
end PV

set_option Elab.async false
set_option linter.all false
set_option maxRecDepth 100000
set_option maxHeartbeats 1000000
/-! PV, part D: comparisons. -/
namespace PV
open PySem PySem.Spec PyProof.Rows L2
variable [Tabl]
section
variable {K : PySem.W.Frag} {F H : Hp}
theorem dp_ints : ∀ ns : List Int, DpAll K H (ns.map V.int) (ns.map PyData.int)
  | [] => .nil
  | n :: r => .cons (.int n) (dp_ints r)
mutual
theorem Dat.dp (e : Ex F H) : ∀ {v : V} {d : D}, Dat K F v d → (toPy d).canLay0 = true → Dp K H v (toPy d)
  | _, _, .non, _ => .non
  | _, _, .bl b, _ => .bl b
  | _, _, .int i, _ => .int i
  | _, _, .str x, _ => .str x
  | _, _, .lst h1 h2 _, l => .lst (.of (e.get h1)) (Dats.dp e h2 (by simpa [toPy, PyData.canLay0] using l))
  | _, _, .tup h1 h2 _, l => .tup (.of (e.get h1)) (Dats.dp e h2 (by simpa [toPy, PyData.canLay0] using l))
  | _, _, .rot h1 h2 _, l => .tup (ex_t e h1) (Dats.dp e h2 (by simpa [toPy, PyData.canLay0] using l))
  | _, _, .rol h1 _, l => .lst (ex_l e h1) (dp_ints _)
  | _, _, .dic _ _ _ _, l => by simp [toPy, PyData.canLay0] at l
  | _, _, .dicT _ _ _ _, l => by simp [toPy, PyData.canLay0] at l
  | _, _, .ins _ _ _ _ _, l => by simp [toPy, PyData.canLay0] at l
theorem Dats.dp (e : Ex F H) : ∀ {vs : List V} {ds : List D}, Dats K F vs ds → PyData.canLayAll0 (toPys ds) = true → DpAll K H vs (toPys ds)
  | _, _, .nil, _ => .nil
  | _, _, .cons h t, l => by
    simp only [toPys, PyData.canLayAll0, Bool.and_eq_true] at l
    exact .cons (Dat.dp e h l.1) (Dats.dp e t l.2)
end
theorem flat_dat {v : V} {d : D} (h : Dat K F v d) (f : flat d = true) : flatV v = true := by
  cases h <;> first | rfl | cases f
theorem flat_dats : ∀ {vs : List V} {ds : List D}, Dats K F vs ds → ds.all flat = true → vs.all flatV = true
  | _, _, .nil, _ => rfl
  | _, _, .cons h t, f => by
    rw [List.all_cons, Bool.and_eq_true] at f ⊢
    exact ⟨flat_dat h f.1, flat_dats t f.2⟩
theorem eqF_dat {v u : V} {d e : D} (h : Dat K F v d) (g : Dat K F u e) (f1 : flat d = true) (f2 : flat e = true) : eqV v u = eqF d e := by
  cases h <;> cases g <;> first | rfl | cases f1 | cases f2
theorem any_dat {u : V} {e : D} (g : Dat K F u e) (f2 : flat e = true) : ∀ {vs : List V} {ds : List D}, Dats K F vs ds → ds.all flat = true → inV u vs = ds.any fun y => eqF y e
  | _, _, .nil, _ => rfl
  | _, _, .cons h t, f => by
    rw [List.all_cons, Bool.and_eq_true] at f
    show (eqV _ u || inV u _) = _
    rw [List.any_cons, eqF_dat h g f.1 f2, any_dat g f2 t f.2]
theorem key_dat {v : V} {d : D} {k : Key} (h : Dat K F v d) (e : keyOf d = some k) : v = kV k := by
  cases h <;> first | (cases e; rfl) | cases e
theorem keys_dat : ∀ {vs : List V} {ds : List D} {ks : List Key}, Dats K F vs ds → keysOf ds = some ks → vs = ks.map kV
  | _, _, ks, .nil, e => by cases e; rfl
  | _, _, ks, .cons (d := d) (ds := ds) h t, e => by
    unfold keysOf at e
    split at e
    · rename_i k ks' e1 e2
      cases e
      rw [List.map_cons, key_dat h e1, keys_dat t e2]
    · cases e
section
variable {κ : Type} [DecidableEq κ]
theorem val_dat (k : κ) : ∀ {kvs : List (κ × V)} {ds : List (κ × D)}, kvs.map (·.1) = ds.map (·.1) → Dats K F (kvs.map (·.2)) (ds.map (·.2)) → ((valD ds k = none ∧ valV kvs k = none) ∨ ∃ d v, valD ds k = some d ∧ valV kvs k = some v ∧ Dat K F v d)
  | [], [], _, _ => .inl ⟨rfl, rfl⟩
  | [], _ :: _, e, _ => by simp at e
  | _ :: _, [], e, _ => by simp at e
  | (a, v) :: r, (b, d) :: s, e, h => by
    simp only [List.map_cons, List.cons.injEq] at e
    obtain ⟨e1, e2⟩ := e
    subst e1
    cases h with
    | cons h1 h2 =>
      by_cases z : a = k
      · exact .inr ⟨d, v, by simp [valD, z], by simp [valV, z], h1⟩
      · have q1 : valD ((a, d) :: s) k = valD s k := by simp [valD, List.find?_cons, z]
        have q2 : valV ((a, v) :: r) k = valV r k := by simp [valV, List.find?_cons, z]
        rw [q1, q2]
        exact val_dat k e2 h2
end
end
section
variable {X : Cx} {F H : Hp}
def copOf : Cop → CmpOp
  | .eq => .Eq | .ne => .NotEq | .lt => .Lt | .le => .LtE | .gt => .Gt | .ge => .GtE | .isin => .In | .notin => .NotIn | .is_ => .Is | .isnot => .IsNot
theorem dat_non {K : PySem.W.Frag} {v : V} {d : D} (h : Dat K F v d) : decide (v = .non) = isNon d := by
  cases h <;> simp [isNon]
theorem same_dat {K : PySem.W.Frag} {v u : V} {d e : D} (h : Dat K F v d) (g : Dat K F u e) (s : sameF d e = true) : v = u ∧ flatB u = true := by
  cases h <;> cases g <;> first | (cases s; done) | (simp only [sameF, beq_iff_eq] at s; subst s; exact ⟨rfl, rfl⟩)
theorem eq_core {v u : V} {x y : D} {c : Bool} {Q : VK} (neg : Bool) (hu : X.A.units + 64 < cLine) (e : Ex F H) (h1 : Dat X.K F v x) (h2 : Dat X.K F u y) (h : eqD x y = some c) (q : Q (.bl (if neg then !c else c)) H) : WO X (compareOp (if neg then .NotEq else .Eq)) v u H Q := by
  unfold eqD at h
  split at h
  · cases h
    rename_i xs
    cases h1 with
    | dic a1 a2 a3 a4 =>
      rename_i a kvs
      cases h2 with
      | dic b1 b2 b3 b4 =>
        rename_i b lvs
        have hl : lvs = [] := by
          cases lvs with
          | nil => rfl
          | cons p r => simp at b2
        subst hl
        intro pins s σ v u I rx ry
        obtain rfl : v = Value.ref a := rx
        obtain rfl : u = Value.ref b := ry
        obtain ⟨_, ya, va, ra, da⟩ := dk_rd I.hok (ex_rd e a1)
        obtain ⟨_, yb, vb, rb, db⟩ := dk_rd I.hok (ex_rd e b1)
        have hvb : vb = [] := by cases rb; rfl
        subst hvb
        have hlen : (va.length == ([] : List (Key × Value)).length && true) = xs.isEmpty := by
          have l1 := ra.length
          have l2 : kvs.length = xs.length := by simpa using congrArg List.length a2
          rw [← l1, l2]
          cases xs <;> rfl
        have hits : va.length = ([] : List (Key × Value)).length → PySem.W.KeqHits X.A.in1 s [] va true := fun z => by
          have : va = [] := List.eq_nil_of_length_eq_zero z
          subst this
          exact .nil
        cases neg with
        | false => exact PySem.W.keq_eq (knd := mixKind X.prog X.w) (r := true) ya yb da db (by omega) hits (fin_bl I q (by rw [hlen]; rfl))
        | true => exact PySem.W.keq_ne (knd := mixKind X.prog X.w) (r := true) ya yb da db (by omega) hits (fin_bl I q (by rw [hlen]; rfl))
  · rename_i xs ys hne
    obtain ⟨⟨hlen, hall⟩, rfl⟩ := if_some h
    cases h1 with
    | dic a1 a2 a3 a4 =>
      rename_i a kvs
      cases h2 with
      | dic b1 b2 b3 b4 =>
        rename_i b lvs
        intro pins s σ v u I rx ry
        obtain rfl : v = Value.ref a := rx
        obtain rfl : u = Value.ref b := ry
        obtain ⟨_, ya, va, ra, da⟩ := dk_rd I.hok (ex_rd e a1)
        obtain ⟨_, yb, vb, rb, db⟩ := dk_rd I.hok (ex_rd e b1)
        have l1 : kvs.length = xs.length := by simpa using congrArg List.length a2
        have l2 : lvs.length = ys.length := by simpa using congrArg List.length b2
        have hl : va.length = vb.length := by rw [← ra.length, ← rb.length]; omega
        have hp : ∀ p ∈ kvs, valV lvs p.1 = some p.2 ∧ flatB p.2 = true := by
          have go : ∀ {kvs : List (Key × V)} {xs : List (Key × D)}, kvs.map (·.1) = xs.map (·.1) → Dats X.K F (kvs.map (·.2)) (xs.map (·.2)) → (xs.all fun p => match valD ys p.1 with | some d => sameF p.2 d | none => false) = true → ∀ p ∈ kvs, valV lvs p.1 = some p.2 ∧ flatB p.2 = true := by
            intro kvs
            induction kvs with
            | nil => intro xs _ _ _ p hp; cases hp
            | cons q r ih =>
              intro xs e1 d1 hA p hp
              cases xs with
              | nil => simp at e1
              | cons z xs =>
                simp only [List.map_cons, List.cons.injEq] at e1
                rw [List.all_cons, Bool.and_eq_true] at hA
                cases d1 with
                | cons g1 g2 =>
                  rcases List.mem_cons.mp hp with rfl | hp
                  · obtain ⟨hA1, _⟩ := hA
                    rw [← e1.1] at hA1
                    rcases val_dat p.1 b2 b3 with ⟨z1, z2⟩ | ⟨d', v', z1, z2, dv⟩
                    · rw [z1] at hA1; cases hA1
                    · rw [z1] at hA1
                      obtain ⟨e3, e4⟩ := same_dat g1 dv hA1
                      have e3' : p.2 = v' := e3
                      rw [z2, e3']
                      exact ⟨rfl, e4⟩
                  · exact ih e1.2 g2 hA.2 p hp
          exact go a2 a3 hall
        cases neg with
        | false => exact PySem.W.keq_eq (knd := mixKind X.prog X.w) (r := true) ya yb da db (by omega) (fun _ => hits_all rb ra hp) (fin_bl I q (by simp [hl]))
        | true => exact PySem.W.keq_ne (knd := mixKind X.prog X.w) (r := true) ya yb da db (by omega) (fun _ => hits_all rb ra hp) (fin_bl I q (by simp [hl]))
  · obtain ⟨⟨s1, s2⟩, rfl⟩ := if_some h
    have p1 := h1.dp e (SeqAt.canLay_of_shaped s1)
    have p2 := h2.dp e (SeqAt.canLay_of_shaped s2)
    cases neg with
    | false => exact wo_of (op_eqD hu) ⟨_, _, p1, p2, s1, s2, q⟩
    | true => exact wo_of (op_neD hu) ⟨_, _, p1, p2, s1, s2, q⟩
theorem in_core {v u : V} {x y : D} {c : Bool} {Q : VK} (neg : Bool) (hu : X.A.units + 64 < cLine) (e : Ex F H) (h1 : Dat X.K F v x) (h2 : Dat X.K F u y) (h : inD x y = some c) (q : Q (.bl (if neg then !c else c)) H) : WO X (compareOp (if neg then .NotIn else .In)) v u H Q := by
  have seq : ∀ {p : Addr} {vs : List V} {ds : List D}, (SqL X.K H p vs ∨ SqT X.K H p vs) → Dats X.K F vs ds → (if flat x = true ∧ ds.all flat = true then some (ds.any fun y => eqF y x) else none) = some c → WO X (compareOp (if neg then .NotIn else .In)) v (.ref p) H Q := fun {p vs ds} hs hd hh => by
    obtain ⟨⟨s1, s2⟩, rfl⟩ := if_some hh
    have r : rIn X.K neg v (.ref p) H Q := ⟨p, vs, rfl, hs, flat_dat h1 s1, flat_dats hd s2, by rw [any_dat h1 s1 hd s2]; exact q⟩
    cases neg with
    | false => exact wo_of op_in_seq r
    | true => exact wo_of op_notIn_seq r
  have dct : ∀ {p : Addr} {o : Option V}, DGet H p v o → c = o.isSome → WO X (compareOp (if neg then .NotIn else .In)) v (.ref p) H Q := fun {p o} g ec => by
    subst ec
    intro pins s σ vv uu I rx ry
    obtain rfl : uu = Value.ref p := ry
    cases neg with
    | false => exact d_in (by omega) I g rx fun s' I' => ⟨.bl _, H, I', rfl, q⟩
    | true => exact d_notIn (by omega) I g rx fun s' I' => ⟨.bl _, H, I', rfl, q⟩
  cases h2 with
  | lst a1 a2 a3 => exact seq (.inl (.of (e.get a1))) a2 h
  | tup a1 a2 a3 => exact seq (.inr (.of (e.get a1))) a2 h
  | rot a1 a2 a3 => exact seq (.inr (ex_t e a1)) a2 h
  | str y =>
    unfold inD at h
    dsimp only at h
    split at h
    · rename_i z
      split at h
      · rename_i c' hz
        cases h
        cases h1
        have ez : z = ⟨#[c']⟩ := by
          cases z with
          | mk cps =>
            cases cps with
            | mk l => cases hz; rfl
        cases neg with
        | false => exact wo_of op_in_sign ⟨c', y, by rw [ez], rfl, q⟩
        | true => exact wo_of op_notIn_sign ⟨c', y, by rw [ez], rfl, q⟩
      · cases h
    · cases h
  | dic a1 a2 a3 a4 =>
    unfold inD at h
    dsimp only at h
    split at h
    · cases h
      cases h1
      intro pins s σ vv uu I rx ry
      obtain rfl : uu = Value.ref _ := ry
      obtain rfl : vv = Value.none := rx
      cases neg with
      | false => exact d_inNone I (ex_rd e a1) fun s' I' => ⟨.bl _, H, I', rfl, q⟩
      | true => exact d_notInNone I (ex_rd e a1) fun s' I' => ⟨.bl _, H, I', rfl, q⟩
    split at h
    · rename_i k ek
      have ev := key_dat h1 ek
      subst ev
      refine dct (.inl ⟨_, k, ex_rd e a1, rfl, rfl⟩) ?_
      cases h
      rcases val_dat k a2 a3 with ⟨z1, z2⟩ | ⟨_, _, z1, z2, _⟩ <;> rw [z1, z2] <;> rfl
    · cases h
  | dicT a1 a2 a3 a4 =>
    unfold inD at h
    dsimp only at h
    split at h
    · rename_i ds
      split at h
      · rename_i k ek
        cases h1 with
        | tup b1 b2 b3 =>
          have ev := keys_dat b2 ek
          subst ev
          refine dct (.t (e.get a1) (e.get b1)) ?_
          cases h
          rcases val_dat k a2 a3 with ⟨z1, z2⟩ | ⟨_, _, z1, z2, _⟩ <;> rw [z1, z2] <;> rfl
      · cases h
    · cases h
  | _ => cases h
theorem cmp_ok {o : Cop} {v u : V} {x y : D} {c : Bool} {Q : VK} (hu : X.A.units + 64 < cLine) (e : Ex F H) (h1 : Dat X.K F v x) (h2 : Dat X.K F u y) (h : cmpD o x y = some c) (q : Q (.bl c) H) : WO X (compareOp (copOf o)) v u H Q := by
  cases o with
  | eq => exact eq_core false hu e h1 h2 h q
  | ne =>
    obtain ⟨b, hb, rfl⟩ := Option.map_eq_some_iff.mp (show (eqD x y).map (!·) = some c from h)
    exact eq_core true hu e h1 h2 hb q
  | isin => exact in_core false hu e h1 h2 h q
  | notin =>
    obtain ⟨b, hb, rfl⟩ := Option.map_eq_some_iff.mp (show (inD x y).map (!·) = some c from h)
    exact in_core true hu e h1 h2 hb q
  | is_ =>
    cases h2 with
    | non => cases h1 <;> (cases h; exact wo_of op_isN ⟨rfl, q⟩)
    | bl b' =>
      cases h1 <;> try (cases (show (none : Option Bool) = some c from h))
      cases h
      exact wo_of op_isBl ⟨_, _, rfl, rfl, by rw [Bool.beq_eq_decide_eq] at q; exact q⟩
    | _ => cases h1 <;> cases (show (none : Option Bool) = some c from h)
  | isnot =>
    cases h2 with
    | non => cases h1 <;> (cases h; exact wo_of op_notN ⟨rfl, q⟩)
    | bl b' =>
      cases h1 <;> try (cases (show (none : Option Bool) = some c from h))
      cases h
      exact wo_of op_notBl ⟨_, _, rfl, rfl, by rw [Bool.beq_eq_decide_eq] at q; exact q⟩
    | _ => cases h1 <;> cases (show (none : Option Bool) = some c from h)
  | lt =>
    cases h1 <;> try (cases (show (none : Option Bool) = some c from h))
    cases h2 <;> try (cases (show (none : Option Bool) = some c from h))
    cases h
    exact wo_of op_lt ⟨_, _, rfl, rfl, q⟩
  | le =>
    cases h1 <;> try (cases (show (none : Option Bool) = some c from h))
    cases h2 <;> try (cases (show (none : Option Bool) = some c from h))
    cases h
    exact wo_of op_le ⟨_, _, rfl, rfl, q⟩
  | gt =>
    cases h1 <;> try (cases (show (none : Option Bool) = some c from h))
    cases h2 <;> try (cases (show (none : Option Bool) = some c from h))
    cases h
    exact wo_of op_gt ⟨_, _, rfl, rfl, q⟩
  | ge =>
    cases h1 <;> try (cases (show (none : Option Bool) = some c from h))
    cases h2 <;> try (cases (show (none : Option Bool) = some c from h))
    cases h
    exact wo_of op_ge ⟨_, _, rfl, rfl, q⟩
end
section
variable {X : Cx} {a b c : Expr} {σ : L2.St} {F F1 H : Hp} {x y z : D} {pos : Pos} {t : Bool}
theorem ev_cmp {o : Cop} (hu : X.A.units + 64 < cLine) (ha : EvZ X a σ F x) (hb : EvZ X b σ F y) (h : cmpD o x y = some t) (hm : behindInMarks (copOf o) b = false) : EvD X (.Compare a [copOf o] [b] pos) σ F 0 (.bl t) :=
  fun F1 H e1 e2 Q q => w_of (pe_cmpR op_W pe_W pe_W hm) (ev2 ha hb e1 e2 fun v u F2 H2 st d1 d2 => cmp_ok hu st.fh d1 d2 h (give q st (.bl t)))
theorem et_cmp {o : Cop} (hu : X.A.units + 64 < cLine) (ha : EvZ X a σ F x) (hb : EvZ X b σ F y) (h : cmpD o x y = some t) (hm : behindInMarks (copOf o) b = false) : EvT X (.Compare a [copOf o] [b] pos) σ F t :=
  fun F1 H e1 e2 Q q => wt_of (pt_cmpR op_W pe_W pe_W hm) (ev2 ha hb e1 e2 fun v u F2 H2 st d1 d2 => cmp_ok hu st.fh d1 d2 h ⟨t, rfl, q F2 H2 st⟩)
end
end PV

set_option Elab.async false
set_option linter.all false
set_option maxRecDepth 100000
set_option maxHeartbeats 2000000
/-! PV, part Da: tuples that hold dicts are not unlike. -/
namespace PV
open PySem PySem.Spec PyProof.Rows L2
open PySem.SeqAt (EqIn EqAt)
open AutoSeq1 (wpAny_loadPart')
variable [Tabl]
/-- __ne__ of two tuples whose items are equal, one by one -/
theorem ne_items {prog : Program} {w : World} (l b : Addr) (xs ys : Array Value) (n m : Nat) (dd de : Option Addr) (sl sm : Array (Option Value)) (hz : xs.size = ys.size) :
    MeetsIn prog w (Builtin.«tuple.__ne__» ⟨[.ref l, .ref b], []⟩)
      (fun A R s => s.heap.get? l = some { cls := .type "tuple", dict := dd, data := .seq xs n, slots := sl } ∧ s.heap.get? b = some { cls := .type "tuple", dict := de, data := .seq ys m, slots := sm } ∧
        (∀ j (h1 : j < xs.size) (h2 : j < ys.size), EqIn prog w A.in1 s xs[j] ys[j] true) ∧ R (.ok (.ret (.bool false))) s) :=
  .of_wp fun A R s h => by
    obtain ⟨hp, g, d, tk, os⟩ := s
    obtain ⟨hl, hb, he, h⟩ := h
    have f2 := AutoSeq1.sub_tuple_tuple
    wp_walk using wpAny_loadPart' hl, wpAny_loadPart' hb, wpAny_forIn_list _ (fun rest b s' => b.1 = none ∧ s' = ⟨hp, g, d, tk, os⟩ ∧ ∃ i, rest = (xs.toList.zip ys.toList).drop i) _
    case turn =>
      rintro ⟨y, x⟩ rest b s' ⟨_, rfl, i, hr⟩
      have hi : i < (xs.toList.zip ys.toList).length := Classical.byContradiction fun z => by
        rw [List.drop_of_length_le (by omega)] at hr; cases hr
      have hi2 : i < xs.size ∧ i < ys.size := by
        rw [List.length_zip, Array.length_toList, Array.length_toList] at hi
        omega
      rw [List.drop_eq_getElem_cons hi] at hr
      injection hr with e1 e2
      have hy : y = xs[i]'hi2.1 := by simpa using congrArg Prod.fst e1
      have hx : x = ys[i]'hi2.2 := by simpa using congrArg Prod.snd e1
      subst hy hx
      refine wpAny_bind (he i hi2.1 hi2.2 _ _ ?_)
      wp_walk
      exact ⟨rfl, rfl, i + 1, e2⟩
    case fin =>
      rintro ⟨b1, b2⟩ s' ⟨hb', rfl, i, hr⟩
      simp only at hb'
      subst hb'
      wp_walk
      exact ⟨_, rfl, by simpa [Builtin.Tuple.tupleCompareSizes, bne, hz] using h⟩
    case h => exact ⟨rfl, rfl, 0, rfl⟩
theorem ne_tuples {prog : Program} {w : World} {A : Around} {E : Value → Shared → Prop} {s : Shared} {l b : Addr} {xs ys : Array Value} {Q : Value → Shared → Prop} (hl : s.heap.IsTuple l xs) (hb : s.heap.IsTuple b ys) (hu : A.units < cLine) (hz : xs.size = ys.size)
    (he : ∀ j (h1 : j < xs.size) (h2 : j < ys.size), EqIn prog w A.in1 s xs[j] ys[j] true) (h : Q (.bool false) s) : wpAny (model prog w) A (compareOp .NotEq (.ref l) (.ref b)) Q E s := by
  obtain ⟨⟨c1, dd, d1, sl⟩, ho, hc, n, hd⟩ := id hl
  obtain ⟨⟨c2, de, d2, sm⟩, ho2, hc2, m, hd2⟩ := id hb
  simp only at hc hd hc2 hd2
  subst hc hd hc2 hd2
  exact wpAny_richCompare_same_room (T := "tuple") (op := .NotEq) ⟨_, ho, rfl⟩ ⟨_, ho2, rfl⟩ F.slot_tuple_ne (call_meetsIn F.slot_tuple_ne ⟨_, ho, rfl⟩ F.entry_tuple_ne (F.args_tuple_ne_2 _ _) (ne_items l b xs ys n m dd de sl sm hz)
    ⟨ho, ho2, he, show Value.bool false ≠ Value.notImplemented ∧ Q (.bool false) s from ⟨(fun x => nomatch x), h⟩⟩) hu
section
variable {X : Cx} {F H : Hp}
/-- an item, and the like of it -/
theorem item_eq {A : Around} {pins : List (Addr × Obj)} {s : Shared} {σ : L2.St} (I : Inv X pins σ H s) (hu : A.units < cLine) (e : Ex F H) {v u : V} {x y : D} (h1 : Dat X.K F v x) (h2 : Dat X.K F u y) (h : (sameF x y || dicE x y) = true) {a b : Value} (ra : RelV v a) (rb : RelV u b) : EqIn X.prog X.w A s a b true := by
  rcases (Bool.or_eq_true _ _).mp h with h | h
  · cases x with
    | bl p =>
      cases y with
      | bl q =>
        have h : p = q := by simpa [sameF] using h
        subst h
        cases h1
        cases h2
        obtain rfl : a = _ := ra
        obtain rfl : b = _ := rb
        have := EqAt.bool_bool (A := A) (s := s) p p
        rw [beq_self_eq_true] at this
        exact this.inModel _ _
      | _ => cases h
    | int p =>
      cases y with
      | int q =>
        have h : p = q := by simpa [sameF] using h
        subst h
        cases h1
        cases h2
        obtain ⟨t, rfl⟩ := ra
        obtain ⟨t', rfl⟩ := rb
        have := EqAt.int_int (A := A) (s := s) p t p t'
        rw [beq_self_eq_true] at this
        exact this.inModel _ _
      | _ => cases h
    | str p =>
      cases y with
      | str q =>
        have h : p = q := by simpa [sameF] using h
        subst h
        cases h1
        cases h2
        obtain ⟨t, rfl⟩ := ra
        obtain ⟨t', rfl⟩ := rb
        have := EqAt.str_str (A := A) (s := s) p t p t'
        rw [beq_self_eq_true] at this
        exact this.inModel _ _
      | _ => cases h
    | _ => cases h
  · cases x with
    | dic xs =>
     cases y with
     | dic ys =>
      have h : (decide (xs.length = ys.length) && xs.all fun p => match valD ys p.1 with | some d => sameF p.2 d | none => false) = true := h
      rw [Bool.and_eq_true] at h
      obtain ⟨hlen, hall⟩ := h
      have hlen := of_decide_eq_true hlen
      cases h1 with
      | dic a1 a2 a3 a4 =>
        rename_i p kvs
        cases h2 with
        | dic b1 b2 b3 b4 =>
          rename_i q lvs
          obtain rfl : a = Value.ref p := ra
          obtain rfl : b = Value.ref q := rb
          obtain ⟨_, ya, va, ra, da⟩ := dk_rd I.hok (ex_rd e a1)
          obtain ⟨_, yb, vb, rb, db⟩ := dk_rd I.hok (ex_rd e b1)
          have l1 : kvs.length = xs.length := by simpa using congrArg List.length a2
          have l2 : lvs.length = ys.length := by simpa using congrArg List.length b2
          have hl : va.length = vb.length := by rw [← ra.length, ← rb.length]; omega
          have hp : ∀ p ∈ kvs, valV lvs p.1 = some p.2 ∧ flatB p.2 = true := by
            have go : ∀ {kvs : List (Key × V)} {xs : List (Key × D)}, kvs.map (·.1) = xs.map (·.1) → Dats X.K F (kvs.map (·.2)) (xs.map (·.2)) → (xs.all fun p => match valD ys p.1 with | some d => sameF p.2 d | none => false) = true → ∀ p ∈ kvs, valV lvs p.1 = some p.2 ∧ flatB p.2 = true := by
              intro kvs
              induction kvs with
              | nil => intro xs _ _ _ p hp; cases hp
              | cons q r ih =>
                intro xs e1 d1 hA p hp
                cases xs with
                | nil => simp at e1
                | cons z xs =>
                  simp only [List.map_cons, List.cons.injEq] at e1
                  rw [List.all_cons, Bool.and_eq_true] at hA
                  cases d1 with
                  | cons g1 g2 =>
                    rcases List.mem_cons.mp hp with rfl | hp
                    · obtain ⟨hA1, _⟩ := hA
                      rw [← e1.1] at hA1
                      rcases val_dat p.1 b2 b3 with ⟨z1, z2⟩ | ⟨d', v', z1, z2, dv⟩
                      · rw [z1] at hA1; cases hA1
                      · rw [z1] at hA1
                        obtain ⟨e3, e4⟩ := same_dat g1 dv hA1
                        have e3' : p.2 = v' := e3
                        rw [z2, e3']
                        exact ⟨rfl, e4⟩
                    · exact ih e1.2 g2 hA.2 p hp
            exact go a2 a3 hall
          by_cases hpq : p = q
          · subst hpq
            exact (EqAt.same _).inModel _ _
          · exact PySem.SeqAt.EqIn.of_refs hpq fun E Q hq => PySem.W.keq_eq (knd := mixKind X.prog X.w) (r := true) ya yb da db hu (fun _ => hits_all rb ra hp) (by rw [hl, beq_self_eq_true]; exact hq)
     | _ => cases h
    | _ => cases h
theorem pairs_at {K : PySem.W.Frag} : ∀ {vs us : List V} {xs ys : List D}, Dats K F vs xs → Dats K F us ys → pairsE xs ys = true → vs.length = us.length ∧ ∀ (j : Nat) (v u : V), vs[j]? = some v → us[j]? = some u → ∃ x y, Dat K F v x ∧ Dat K F u y ∧ (sameF x y || dicE x y) = true
  | _, _, [], [], .nil, .nil, _ => ⟨rfl, fun j v u h => by simp at h⟩
  | _, _, x :: xs, y :: ys, .cons a1 a2, .cons b1 b2, h => by
    unfold pairsE at h
    rw [Bool.and_eq_true] at h
    obtain ⟨i1, i2⟩ := pairs_at a2 b2 h.2
    refine ⟨by rw [List.length_cons, List.length_cons, i1], fun j v u hv hw => ?_⟩
    cases j with
    | zero =>
      simp only [List.getElem?_cons_zero, Option.some.injEq] at hv hw
      subst hv hw
      exact ⟨x, y, a1, b1, h.1⟩
    | succ j => exact i2 j v u (by simpa using hv) (by simpa using hw)
  | _, _, [], _ :: _, _, _, h => by cases h
  | _, _, _ :: _, [], _, _, h => by cases h
theorem ne_core {v u : V} {x y : D} {Q : VK} (hu : X.A.units + 64 < cLine) (e : Ex F H) (h1 : Dat X.K F v x) (h2 : Dat X.K F u y) (h : tupE x y = true) (q : Q (.bl false) H) : WO X (compareOp .NotEq) v u H Q := by
  unfold tupE at h
  split at h
  · cases h1 with
    | tup a1 a2 a3 =>
      rename_i a vs
      cases h2 with
      | tup b1 b2 b3 =>
        rename_i b us
        obtain ⟨hl, hp⟩ := pairs_at a2 b2 h
        intro pins s σ v u I rx ry
        obtain rfl : v = Value.ref a := rx
        obtain rfl : u = Value.ref b := ry
        obtain ⟨ia, rva, pa, _⟩ := I.tuple (.of (e.get a1))
        obtain ⟨ib, rvb, pb, _⟩ := I.tuple (.of (e.get b1))
        refine ne_tuples pa pb (by omega) ?_ (fun j j1 j2 => ?_) (fin_bl I q rfl)
        · simp only [List.size_toArray]
          rw [← rva.length, ← rvb.length, hl]
        · simp only [List.size_toArray] at j1 j2
          have k1 : j < vs.length := by rw [rva.length]; exact j1
          have k2 : j < us.length := by rw [rvb.length]; exact j2
          obtain ⟨x', y', d1, d2, hs⟩ := hp j vs[j] us[j] (List.getElem?_eq_getElem k1) (List.getElem?_eq_getElem k2)
          obtain ⟨w1, e1, r1⟩ := rva.get (List.getElem?_eq_getElem k1)
          obtain ⟨w2, e2, r2⟩ := rvb.get (List.getElem?_eq_getElem k2)
          have g1 : ia.toArray[j] = w1 := by
            have := List.getElem?_eq_getElem j1
            rw [this] at e1
            simpa using e1
          have g2 : ib.toArray[j] = w2 := by
            have := List.getElem?_eq_getElem j2
            rw [this] at e2
            simpa using e2
          rw [g1, g2]
          exact item_eq I (show X.A.units + 1 < cLine by omega) e d1 d2 hs r1 r2
  · cases h
end
section
variable {X : Cx} {a b c : Expr} {σ : L2.St} {F F1 H : Hp} {x y z : D} {pos : Pos}
theorem ev_net (hu : X.A.units + 64 < cLine) (ha : EvZ X a σ F x) (hb : EvZ X b σ F y) (h : tupE x y = true) (hm : behindInMarks (copOf .ne) b = false) : EvD X (.Compare a [copOf .ne] [b] pos) σ F 0 (.bl false) :=
  fun F1 H e1 e2 Q q => w_of (pe_cmpR op_W pe_W pe_W hm) (ev2 ha hb e1 e2 fun v u F2 H2 st d1 d2 => ne_core hu st.fh d1 d2 h (give q st (.bl false)))
theorem et_net (hu : X.A.units + 64 < cLine) (ha : EvZ X a σ F x) (hb : EvZ X b σ F y) (h : tupE x y = true) (hm : behindInMarks (copOf .ne) b = false) : EvT X (.Compare a [copOf .ne] [b] pos) σ F false :=
  fun F1 H e1 e2 Q q => wt_of (pt_cmpR op_W pe_W pe_W hm) (ev2 ha hb e1 e2 fun v u F2 H2 st d1 d2 => ne_core hu st.fh d1 d2 h ⟨false, rfl, q F2 H2 st⟩)
end
end PV

set_option Elab.async false
set_option linter.all false
set_option maxRecDepth 100000
set_option maxHeartbeats 1000000
/-! PV, part E: chains, and, or, argument lists, displays, subscripts, slices, built-ins. -/
namespace PV
open PySem PySem.Spec PyProof.Rows L2
variable [Tabl]
section
variable {X : Cx} {e a b c : Expr} {es rest : List Expr} {σ : L2.St} {F F1 H : Hp} {d x y z : D} {ds : List D} {k : Nat} {pos : Pos} {t u : Bool}

theorem chain_core {o p : Cop} (hu : X.A.units + 64 < cLine) (ha : EvZ X a σ F x) (hb : EvZ X b σ F y) (h1 : cmpD o x y = some u) (h2 : u = true → EvZ X c σ F z ∧ cmpD p y z = some t) (h3 : u = false → t = false)
    (e1 : Ex F F1) (e2 : Fh F1 H) {Q : VK} (q : ∀ F2 H2, Stp F1 H F2 H2 → Q (.bl t) H2) : tChain (WO X (compareOp (copOf o))) (WO X (compareOp (copOf p))) (WE X a) (WE X b) (WE X c) σ H Q := by
  refine ev2 ha hb e1 e2 fun v w F2 H2 st d1 d2 => cmp_ok hu st.fh d1 d2 h1 ⟨u, rfl, ?_⟩
  cases u with
  | true =>
    obtain ⟨hc, h2⟩ := h2 rfl
    exact iteT (hc F2 H2 (e1.trans st.ff) st.fh _ fun w' F3 H3 s2 d3 => cmp_ok hu s2.fh (d2.mono s2.ff) d3 h2 (q F3 H3 (st.trans s2)))
  | false =>
    have e := h3 rfl
    subst e
    exact iteF (q F2 H2 st)
theorem ev_chain {o p : Cop} (hu : X.A.units + 64 < cLine) (ha : EvZ X a σ F x) (hb : EvZ X b σ F y) (h1 : cmpD o x y = some u) (h2 : u = true → EvZ X c σ F z ∧ cmpD p y z = some t) (h3 : u = false → t = false)
    (hm : lastMarks [copOf o, copOf p] [b, c] = false) : EvD X (.Compare a [copOf o, copOf p] [b, c] pos) σ F 0 (.bl t) :=
  fun F1 H e1 e2 Q q => w_of (pe_chain op_W op_W pe_W pe_W pe_W hm) (chain_core hu ha hb h1 h2 h3 e1 e2 fun F2 H2 st => give q st (.bl t))
theorem et_chain {o p : Cop} (hu : X.A.units + 64 < cLine) (ha : EvZ X a σ F x) (hb : EvZ X b σ F y) (h1 : cmpD o x y = some u) (h2 : u = true → EvZ X c σ F z ∧ cmpD p y z = some t) (h3 : u = false → t = false)
    (hm : lastMarks [copOf o, copOf p] [b, c] = false) : EvT X (.Compare a [copOf o, copOf p] [b, c] pos) σ F t :=
  fun F1 H e1 e2 Q q => wt_of (pt_chain op_W op_W pe_W pe_W pe_W hm) (chain_core hu ha hb h1 h2 h3 e1 e2 fun F2 H2 st => ⟨t, rfl, q F2 H2 st⟩)

/-! ### and, or -/
theorem ev_one {op : BoolOp} (h : EvZ X a σ F (.bl t)) : EvD X (.BoolOp op [a] pos) σ F 0 (.bl t) := fun F1 H e1 e2 Q q => w_of (pe_one pe_W) (h F1 H e1 e2 _ fun v F2 H2 st d1 => give q st d1)
theorem ev_and (ha : EvZ X a σ F (.bl t)) (hb : t = true → EvZ X (.BoolOp .And (b :: rest) pos) σ F (.bl u)) (hn : t = false → u = false) : EvD X (.BoolOp .And (a :: b :: rest) pos) σ F 0 (.bl u) :=
  fun F1 H e1 e2 Q q => w_of (pe_and pe_W pe_W) (ha F1 H e1 e2 _ fun v F2 H2 st d1 => by
    cases d1
    refine ⟨t, rfl, ?_⟩
    cases t with
    | true => exact iteT (hb rfl F2 H2 (e1.trans st.ff) st.fh _ fun v F3 H3 s2 d2 => give q (st.trans s2) d2)
    | false => have e := hn rfl; subst e; exact iteF (give q st (.bl false)))
theorem ev_or (ha : EvZ X a σ F (.bl t)) (hb : t = false → EvZ X (.BoolOp .Or (b :: rest) pos) σ F (.bl u)) (hn : t = true → u = true) : EvD X (.BoolOp .Or (a :: b :: rest) pos) σ F 0 (.bl u) :=
  fun F1 H e1 e2 Q q => w_of (pe_or pe_W pe_W) (ha F1 H e1 e2 _ fun v F2 H2 st d1 => by
    cases d1
    refine ⟨t, rfl, ?_⟩
    cases t with
    | false => exact iteF (hb rfl F2 H2 (e1.trans st.ff) st.fh _ fun v F3 H3 s2 d2 => give q (st.trans s2) d2)
    | true => have e := hn rfl; subst e; exact iteT (give q st (.bl true)))
/-- as tests, whatever the whole is -/
def WW (X : Cx) (e : Expr) : TT := fun σ H Q => ∀ (whole : Sem Value) pins s, Inv X pins σ H s → wpAny (model X.prog X.w) X.A (isTrue e X.env whole) (TP X pins σ Q) X.xe s
theorem pw_W {X : Cx} {e : Expr} : PW X e (WW X e) := ⟨fun wh pins s _ _ _ I h => h wh pins s I⟩
theorem ww_of {X : Cx} {e : Expr} {t : TT} (h : PW X e t) {σ : L2.St} {H : Hp} {Q : Bool → Hp → Prop} (q : t σ H Q) : WW X e σ H Q := fun wh pins s I => h.run wh pins s σ H Q I q
def EvW (X : Cx) (e : Expr) (σ : L2.St) (F : Hp) (b : Bool) : Prop :=
  ∀ F1 H, Ex F F1 → Fh F1 H → ∀ Q : Bool → Hp → Prop, (∀ F2 H2, Stp F1 H F2 H2 → Q b H2) → WW X e σ H Q
theorem EvW.tst (h : EvW X e σ F t) : EvT X e σ F t := fun F1 H e1 e2 Q q pins s I => h F1 H e1 e2 Q q _ pins s I
theorem ew_and1 (h : EvT X a σ F t) : EvW X (.BoolOp .And [a] pos) σ F t := fun F1 H e1 e2 Q q => ww_of (pw_and1 pt_W) (h F1 H e1 e2 Q q)
theorem ew_or1 (h : EvT X a σ F t) : EvW X (.BoolOp .Or [a] pos) σ F t := fun F1 H e1 e2 Q q => ww_of (pw_or1 pt_W) (h F1 H e1 e2 Q q)
theorem ew_and (ha : EvT X a σ F t) (hb : t = true → EvW X (.BoolOp .And (b :: rest) pos) σ F u) (hn : t = false → u = false) : EvW X (.BoolOp .And (a :: b :: rest) pos) σ F u :=
  fun F1 H e1 e2 Q q => ww_of (pw_and pt_W pw_W) (ha F1 H e1 e2 _ fun F2 H2 st => by
    cases t with
    | true => exact iteT (hb rfl F2 H2 (e1.trans st.ff) st.fh _ fun F3 H3 s2 => q F3 H3 (st.trans s2))
    | false => have e := hn rfl; subst e; exact iteF (q F2 H2 st))
theorem ew_or (ha : EvT X a σ F t) (hb : t = false → EvW X (.BoolOp .Or (b :: rest) pos) σ F u) (hn : t = true → u = true) : EvW X (.BoolOp .Or (a :: b :: rest) pos) σ F u :=
  fun F1 H e1 e2 Q q => ww_of (pw_or pt_W pw_W) (ha F1 H e1 e2 _ fun F2 H2 st => by
    cases t with
    | false => exact iteF (hb rfl F2 H2 (e1.trans st.ff) st.fh _ fun F3 H3 s2 => q F3 H3 (st.trans s2))
    | true => have e := hn rfl; subst e; exact iteT (q F2 H2 st))

/-! ### argument lists, displays -/
theorem ea_nil : EvA X [] σ F [] := fun F1 H e1 e2 Q q => wa_of pa_nil (show Q [] H from q [] F1 H (.refl e2) .nil)
theorem ea_cons (ha : EvZ X e σ F d) (hr : EvA X es σ F ds) (hs : starEach (e :: es) X.env = (false, eval e X.env) :: starEach es X.env) : EvA X (e :: es) σ F (d :: ds) :=
  fun F1 H e1 e2 Q q => wa_of (pa_cons pe_W pa_W hs) (ha F1 H e1 e2 _ fun v F2 H2 st d1 => hr F2 H2 (e1.trans st.ff) st.fh _ fun vs F3 H3 s2 d2 => q (v :: vs) F3 H3 (st.trans s2) (.cons (d1.mono s2.ff) d2))
theorem ev_tup {kk : Nat} (h : EvA X es σ F ds) (hl : ds.length ≤ cap) : EvD X (.Tuple es kk pos) σ F 0 (.tup ds) := fun F1 H e1 e2 Q q => w_of (pe_tup pa_W) (h F1 H e1 e2 _ fun vs F2 H2 st dd =>
  ⟨cap_le (by rw [dd.length]; exact hl), fun p hp => give_tup q st hp dd hl⟩)
theorem ev_lst (h : EvA X es σ F ds) (hl : ds.length ≤ cap) : EvD X (.List es pos) σ F 1 (.lst ds) := fun F1 H e1 e2 Q q => w_of (pe_lst pa_W) (h F1 H e1 e2 _ fun vs F2 H2 st dd =>
  ⟨cap_le (by rw [dd.length]; exact hl), fun p hp => give_lst q st hp dd hl⟩)
theorem ev_dnew : EvD X (.Dict [] [] pos) σ F 1 (.dic []) := fun F1 H e1 e2 Q q => w_of pe_dnewK (fun p hp => give_dic q (.refl e2) hp rfl .nil (Nat.zero_le _))

/-! ### subscripts, slices -/
theorem atI_dats {K : PySem.W.Frag} {vs : List V} {i : Int} (h : Dats K F vs ds) (g : atI ds i = some d) : ∃ v, atI vs i = some v ∧ Dat K F v d := by
  unfold atI at g ⊢
  rw [h.length]
  cases q : ixN ds.length i with
  | none => rw [q] at g; cases g
  | some j => rw [q] at g; exact h.get g
theorem ev_idx (hu : X.A.units + 64 < cLine) (ha : EvZ X a σ F x) (hb : EvZ X b σ F y) (h : idxD x y = some d) (hs : PlainIx b) : EvD X (.Subscript a b pos) σ F 0 d := by
  intro F1 H e1 e2 Q q
  unfold idxD at h
  split at h
  · refine w_of (pe_ix ix_list pe_W pe_W hs) (ev2 ha hb e1 e2 fun v u F2 H2 st d1 d2 => ?_)
    cases d1 with
    | lst h1 h2 h3 =>
      cases d2
      obtain ⟨v, hv, dv⟩ := atI_dats h2 h
      exact ⟨_, _, _, v, rfl, rfl, .of (st.fh.get h1), hv, give q st dv⟩
  · refine w_of (pe_ix ix_tup pe_W pe_W hs) (ev2 ha hb e1 e2 fun v u F2 H2 st d1 d2 => ?_)
    cases d1 with
    | tup h1 h2 h3 =>
      cases d2
      obtain ⟨v, hv, dv⟩ := atI_dats h2 h
      exact ⟨_, _, _, v, rfl, rfl, .of (st.fh.get h1), hv, give q st dv⟩
  · refine w_of (pe_ix ix_tup pe_W pe_W hs) (ev2 ha hb e1 e2 fun v u F2 H2 st d1 d2 => ?_)
    cases d1 with
    | rot h1 h2 h3 =>
      cases d2
      obtain ⟨v, hv, dv⟩ := atI_dats h2 h
      exact ⟨_, _, _, v, rfl, rfl, ex_t st.fh h1, hv, give q st dv⟩
  · obtain ⟨n, hn, rfl⟩ := Option.map_eq_some_iff.mp h
    refine w_of (pe_ix ix_list pe_W pe_W hs) (ev2 ha hb e1 e2 fun v u F2 H2 st d1 d2 => ?_)
    cases d1 with
    | rol h1 h2 =>
      cases d2
      refine ⟨_, _, _, .int n, rfl, rfl, ex_l st.fh h1, ?_, give q st (.int n)⟩
      unfold atI at hn ⊢
      rw [List.length_map]
      obtain ⟨j, hj, hn⟩ := Option.bind_eq_some_iff.mp hn
      rw [hj, Option.bind_some, List.getElem?_map, hn]
      rfl
  · obtain ⟨ky, hk, hv⟩ := Option.bind_eq_some_iff.mp h
    refine w_of (pe_dget (by omega) pe_W pe_W hs) (ev2 ha hb e1 e2 fun v u F2 H2 st d1 d2 => ?_)
    cases d1 with
    | dic h1 h2 h3 h4 =>
      rcases val_dat ky h2 h3 with ⟨z1, z2⟩ | ⟨d', v', z1, z2, dv⟩
      · rw [z1] at hv; cases hv
      · rw [z1] at hv; cases hv
        have eu := key_dat d2 hk
        subst eu
        exact ⟨_, v', rfl, by rw [← z2]; exact .inl ⟨_, ky, ex_rd st.fh h1, rfl, rfl⟩, give q st dv⟩
  · rename_i z i
    split at h
    · rename_i hc
      split at h
      · rename_i c hz
        cases h
        refine w_of (pe_item_str pe_W pe_W hs) (ev2 ha hb e1 e2 fun v u F2 H2 st d1 d2 => ?_)
        cases d1
        cases d2
        have hlt : i.toNat < z.cps.size := (Array.getElem?_eq_some_iff.mp hz).1
        have hlen : z.length = z.cps.size := rfl
        have hcap : (cap : Int) = 100000 := rfl
        exact ⟨z, i, c, rfl, rfl, hc.1, by omega, by omega, hz, give q st (.str _)⟩
      · cases h
    · cases h
  · cases h
theorem cutV_eq (vs : List V) (lo hi : Option Int) : cutV vs lo hi = cutL vs lo hi := rfl
theorem Dats.cut {K : PySem.W.Frag} {vs : List V} (h : Dats K F vs ds) (lo hi : Option Int) : Dats K F (cutL vs lo hi) (cutL ds lo hi) := by
  unfold cutL
  rw [h.length]
  exact (h.drop _).take _
theorem cutL_le {α : Type} (xs : List α) (lo hi : Option Int) : (cutL xs lo hi).length ≤ xs.length := by
  unfold cutL
  rw [List.length_take, List.length_drop]
  omega
theorem cutL_whole {α : Type} (xs : List α) (lo hi : Option Int) (h : HT.sIx xs.length 0 lo = 0 ∧ HT.sIx xs.length xs.length hi = xs.length) : cutL xs lo hi = xs := by
  unfold cutL
  rw [h.1, h.2, List.drop_zero, Nat.sub_zero, List.take_length]
theorem ev_slc {lo hi : Option Expr} {l h : Option Int} {p2 : Pos} {tl th : TO} (ha : EvZ X a σ F x) (hd : slcD x l h = some (k, d))
    (hl : ∀ F1 H, Ex F F1 → Fh F1 H → ∀ Q : Option Int → Hp → Prop, (∀ F2 H2, Stp F1 H F2 H2 → Q l H2) → tl σ H Q) (pl : PO X lo tl)
    (hh : ∀ F1 H, Ex F F1 → Fh F1 H → ∀ Q : Option Int → Hp → Prop, (∀ F2 H2, Stp F1 H F2 H2 → Q h H2) → th σ H Q) (ph : PO X hi th) : EvD X (.Subscript a (.Slice lo hi none p2) pos) σ F k d := by
  intro F1 H e1 e2 Q q
  have go : ∀ {r : V → Option Int → Option Int → Hp → VK → Prop}, SlR X r → (∀ v F2 H2, Stp F1 H F2 H2 → Dat X.K F2 v x → r v l h H2 Q) → WE X (.Subscript a (.Slice lo hi none p2) pos) σ H Q := fun {r} hr hq =>
    w_of (pe_slice hr pe_W pl ph) (ha F1 H e1 e2 _ fun v F2 H2 st d1 => hl F2 H2 (e1.trans st.ff) st.fh _ fun F3 H3 s2 => hh F3 H3 (e1.trans (st.ff.trans s2.ff)) s2.fh _ fun F4 H4 s3 => hq v F4 H4 ((st.trans s2).trans s3) (d1.mono (s2.ff.trans s3.ff)))
  unfold slcD at hd
  split at hd
  · cases hd
    refine go sl_list fun v F2 H2 st d1 => ?_
    cases d1 with
    | lst h1 h2 h3 => exact ⟨_, _, rfl, .of (st.fh.get h1), fun p hp => give_lst q st hp (h2.cut _ _) (Nat.le_trans (cutL_le _ _ _) h3)⟩
  · cases hd
    refine go sl_tupA fun v F2 H2 st d1 => ?_
    cases d1 with
    | tup h1 h2 h3 =>
      refine ⟨_, _, rfl, .of (st.fh.get h1), fun z => ?_, fun _ p hp => give_tup q st hp (h2.cut _ _) (Nat.le_trans (cutL_le _ _ _) h3)⟩
      rw [h2.length] at z
      rw [cutL_whole _ _ _ z] at q
      exact give q st (.tup h1 h2 h3)
  · cases hd
end
end PV

set_option Elab.async false
set_option linter.all false
set_option maxRecDepth 100000
set_option maxHeartbeats 1000000
/-! PV, part F: built-ins by one argument, list.index. -/
namespace PV
open PySem PySem.Spec PyProof.Rows L2
variable [Tabl]
section
variable {X : Cx} {e a b c : Expr} {σ : L2.St} {F F1 H : Hp} {d x y z : D} {ds : List D} {k : Nat} {pos p p2 : Pos}

/-- a plain argument: no star -/
def Pl (X : Cx) (e : Expr) : Prop := ∀ es, starEach (e :: es) X.env = (false, eval e X.env) :: starEach es X.env

/-- one argument to a built-in function, to a built-in type -/
theorem ev_callB {id : String} {n : Str} (hg : Gl X n) (hm : X.mg n = none) (hv : bootBuiltins n = some (.builtin id)) (hn : n ≠ "__name__") (hdb : (n == ("__debug__" : Str)) = false) (hp : Pl X a) (ha : EvZ X a σ F x)
    (h : ∀ F1 H F2 H2 v (Q : VK), Ex F F1 → Stp F1 H F2 H2 → Dat X.K F2 v x → (∀ v F2 H2 fp, Stp F1 H F2 H2 → Own X.K F2 H2 k v d fp → (∀ a ∈ fp, H a = none) → Q v H2) → WC X (.builtin id) [v] H2 Q) : EvD X (.Call (.Name n p) [a] [] pos) σ F k d :=
  fun F1 H e1 e2 Q q => w_of (pe_callB cr_W hg hm hv (pa_cons pe_W pa_nil (hp [])) hn hdb (hp []) rfl) (ha F1 H e1 e2 _ fun v F2 H2 st d1 => h F1 H F2 H2 v Q e1 st d1 q)
theorem ev_callTy {id : String} {n : Str} (hg : Gl X n) (hm : X.mg n = none) (hv : bootBuiltins n = some (.type id)) (hn : n ≠ "__name__") (hdb : (n == ("__debug__" : Str)) = false) (hp : Pl X a) (ha : EvZ X a σ F x)
    (h : ∀ F1 H F2 H2 v (Q : VK), Ex F F1 → Stp F1 H F2 H2 → Dat X.K F2 v x → (∀ v F2 H2 fp, Stp F1 H F2 H2 → Own X.K F2 H2 k v d fp → (∀ a ∈ fp, H a = none) → Q v H2) → WC X (.type id) [v] H2 Q) : EvD X (.Call (.Name n p) [a] [] pos) σ F k d :=
  fun F1 H e1 e2 Q q => w_of (pe_callTy cr_W hg hm hv (pa_cons pe_W pa_nil (hp [])) hn hdb (hp []) rfl) (ha F1 H e1 e2 _ fun v F2 H2 st d1 => h F1 H F2 H2 v Q e1 st d1 q)

theorem len_ok {v : V} {n : Int} {Q : VK} (fh : Ex F H) (hd : Dat X.K F v x) (h : lenD x = some n) (q : Q (.int n) H) : WC X (.builtin "len") [v] H Q := by
  cases hd with
  | str y =>
    obtain ⟨hl, rfl⟩ := if_some h
    exact wc_of call_len ⟨_, y.length, rfl, ⟨cap_le hl, rfl⟩, q⟩
  | lst h1 h2 h3 => cases h; exact wc_of call_len ⟨_, _, rfl, .inl ⟨_, .of (fh.get h1), rfl⟩, by rw [h2.length]; exact q⟩
  | tup h1 h2 h3 => cases h; exact wc_of call_len ⟨_, _, rfl, .inr ⟨_, .of (fh.get h1), rfl⟩, by rw [h2.length]; exact q⟩
  | rot h1 h2 h3 => cases h; exact wc_of call_len ⟨_, _, rfl, .inr ⟨_, ex_t fh h1, rfl⟩, by rw [h2.length]; exact q⟩
  | rol h1 h2 => cases h; exact wc_of call_len ⟨_, _, rfl, .inl ⟨_, ex_l fh h1, rfl⟩, by rw [List.length_map]; exact q⟩
  | dic h1 h2 h3 h4 =>
    cases h
    rename_i a kvs ds
    intro pins s σ us I rv
    obtain ⟨u, rfl, r⟩ := vals1 rv
    obtain rfl : u = Value.ref a := r
    have hl : kvs.length = ds.length := by simpa using congrArg List.length h2
    exact d_len I (ex_rd fh h1) fun t s' I' => ⟨.int kvs.length, H, I', ⟨t, rfl⟩, by rw [hl]; exact q⟩
  | _ => cases h
theorem bools_dats {K : PySem.W.Frag} : ∀ {vs : List V} {ds : List D} {bs : List Bool}, Dats K F vs ds → bools ds = some bs → vs = bs.map V.bl
  | _, _, _, .nil, h => by cases h; rfl
  | _, _, _, .cons h1 h2, h => by
    cases h1 with
    | bl b =>
      obtain ⟨bs', hb, rfl⟩ := Option.map_eq_some_iff.mp (show (bools _).map (b :: ·) = some _ from h)
      rw [bools_dats h2 hb]; rfl
    | _ => cases h
theorem ints_dats {K : PySem.W.Frag} : ∀ {vs : List V} {ds : List D} {bs : List Int}, Dats K F vs ds → intsD ds = some bs → vs = bs.map V.int
  | _, _, _, .nil, h => by cases h; rfl
  | _, _, _, .cons h1 h2, h => by
    cases h1 with
    | int b =>
      obtain ⟨bs', hb, rfl⟩ := Option.map_eq_some_iff.mp (show (intsD _).map (b :: ·) = some _ from h)
      rw [ints_dats h2 hb]; rfl
    | _ => cases h
theorem keys_dats {K : PySem.W.Frag} : ∀ {kvs : List (Key × V)} {ds : List (Key × D)}, kvs.map (·.1) = ds.map (·.1) → Dats K F (kvs.map fun kv => kV kv.1) (ds.map fun kv => dOfKey kv.1)
  | [], [], _ => .nil
  | [], _ :: _, e => by simp at e
  | _ :: _, [], e => by simp at e
  | (a, v) :: r, (b, d) :: s, e => by
    simp only [List.map_cons, List.cons.injEq] at e
    obtain ⟨e1, e2⟩ := e
    subst e1
    refine .cons ?_ (keys_dats e2)
    cases a with
    | inl i => exact .int i
    | inr x => exact .str x

/-! ### list(d.values()) -/
theorem pe_listVals {te : TE} {apos cpos : Pos} (hc : X.calm = true) (he : PE X e te) (hg : Gl X "list") (hm : X.mg "list" = none) (hbase : attributeBase e "values" X.env (eval e X.env) = eval e X.env) (hline : (apos.endLine == cpos.line) = true) :
    PE X (.Call (.Name "list" p) [.Call (.Attribute e "values" apos) [] [] cpos] [] pos) (fun σ H Q => te σ H fun x H1 => ∃ d kvs, x = .ref d ∧ Rd H1 d (.dK kvs) ∧ ∀ q, H1 q = none → Q (.ref q) (upd H1 q (.lst (kvs.map (·.2))))) := by
  refine ⟨fun pins s σ H Q I hq => ?_⟩
  refine wpAny_Call_Name_kw (ld_blt I hg hm (show bootBuiltins "list" = some (.type "list") by decide +kernel) ?_)
  refine PyProof.Rows.callWith_type1 ?_ rfl rfl
  show wpAny _ _ (spliced ((false, eval (.Call (.Attribute e "values" apos) [] [] cpos) X.env) :: backTo pos (starEach [] X.env))) _ _ s
  refine Calls.spliced_cons ?_
  refine wpAny_Call_method (T := "dict") (id := "dict.values") hbase rfl hline F.plainAttrs_dict F.slot_dict_values F.type_dict_values (thn (he.run pins s σ H _ I hq) fun u s1 ⟨x, H1, I1, rx, d, kvs, ex, hd, q⟩ => ?_)
  subst ex
  obtain rfl : u = Value.ref d := rx
  obtain ⟨hz, hs0, vs, kv, hdo⟩ := dk_rd I1.hok hd
  obtain ⟨ep, hat⟩ := hdo.dictAt
  have lk : kvs.length = vs.length := Paired.length kv
  have I2 : Inv X pins σ H1 { s1 with heap := s1.heap.push { cls := .type "dict_values", data := .fields #[.ref d] } } := I1.kept (t' := s1.toks) fun b ob q => Heap.get?_push_of_some _ q
  refine ⟨hdo.typeIs, hdo.mapOf.noDict, ?_⟩
  show wpAny _ _ (callWith cpos (.builtin "dict.values") [.ref d] [] []) _ X.xe s1
  refine method_meetsIn F.slot_dict_values F.entry_dict_values rfl (PySem.evalArgs_none ⟨rfl, hdo.typeIs, F.args_dict_values_1 _, _, meets_dict_values (mixKind X.prog X.w) d hs0, ⟨vs, hdo⟩, ?_⟩)
  refine Calls.spliced_nil ?_
  refine PySem.W.kdl_call (PySem.W.kdl_values (knd := mixKind X.prog X.w) (kvs := vs) (ep := ep)) (I1.ok.hd hc) ⟨⟨_, Heap.get?_push_size _ rfl, rfl, rfl⟩, hat.push _⟩ (by rw [← lk]; exact hz) fun h' tk acc' c' hkeep hS hacc => ?_
  refine ⟨.ref _, upd H1 _ (.lst (kvs.map (·.2))), I2.laid hkeep (Nat.le_refl _) (show ObjOk X.prog X.w _ _ _ (.lst (kvs.map (·.2))) from ⟨?_, acc'.toList, c', ?_, ?_⟩), rfl, q _ (I2.hok.fresh (Nat.le_refl _))⟩
  · rw [List.length_map]; exact hz
  · have el : acc'.toList.length = acc'.size := by simp
    refine vals_of_at (by rw [List.length_map, el, hacc.1, lk]) fun j x w h1 h2 => ?_
    obtain ⟨k, hky⟩ := hacc.2 j w (by rw [← Array.getElem?_toList]; exact h2)
    rw [List.getElem?_map] at h1
    obtain ⟨kv', hkv, rfl⟩ := Option.map_eq_some_iff.mp h1
    obtain ⟨u, hu, ru⟩ := kv_get kv (i := j) (k := kv'.1) (v := kv'.2) hkv
    rw [hky] at hu
    cases hu
    exact ru
  · rw [Array.toArray_toList]; exact hS
theorem ev_listvals {apos cpos : Pos} {kvs : List (Key × D)} (hc : X.calm = true) (hg : Gl X "list") (hm : X.mg "list" = none) (hbase : attributeBase e "values" X.env (eval e X.env) = eval e X.env) (hline : (apos.endLine == cpos.line) = true) (h : EvZ X e σ F (.dic kvs)) :
    EvD X (.Call (.Name "list" p) [.Call (.Attribute e "values" apos) [] [] cpos] [] pos) σ F 1 (.lst (kvs.map (·.2))) :=
  fun F1 H e1 e2 Q q => w_of (pe_listVals hc pe_W hg hm hbase hline) (h F1 H e1 e2 _ fun v F2 H2 st d1 => by
    cases d1 with
    | dic h1 h2 h3 h4 => exact ⟨_, _, rfl, ex_rd st.fh h1, fun p hp => give_lst q st hp h3 (by rw [List.length_map]; exact h4)⟩)

/-! ### len(set(ints)) -/
theorem pe_lenSet {te : TE} {q : Pos} (hg : Gl X "len") (hm : X.mg "len" = none) (hg2 : Gl X "set") (hm2 : X.mg "set" = none) (ha : PE X a te) (hc : X.calm = true) (na : Pl X a) :
    PE X (.Call (.Name "len" p) [.Call (.Name "set" p2) [a] [] q] [] pos) (fun σ H Q => te σ H fun x H1 => ∃ (l : Addr) (ns : List Int), x = .ref l ∧ SqL X.K H1 l (ns.map V.int) ∧ ns.length ≤ 4000 ∧ Q (.int ((PyProof.Rows.firstMet (fun i => ns.getD i 0) ns.length).length : Nat)) H1) := by
  refine ⟨fun pins s σ H Q I h => ?_⟩
  refine Call_ (ld_blt I hg hm boot_len ?_)
  refine PyProof.Rows.callWith_builtin1 (PyProof.Rows.args_cons ?_ rfl) rfl rfl
  refine Call_ (ld_blt I hg2 hm2 boot_set ?_)
  refine PyProof.Rows.callWith_type1 (PyProof.Rows.args_cons (thn (ha.run pins s σ H _ I h) fun v s1 ⟨x, H1, I1, r1, q1⟩ => PyProof.Rows.args_nil ?_) (na [])) (na []) rfl
  obtain ⟨l, ns, rfl, hq, hl, q1⟩ := q1
  cases r1
  obtain ⟨its, r, pl, hz⟩ := I1.list hq
  have hlen : its.toArray.size = ns.length := by rw [List.size_toArray, ← r.length, List.length_map]
  refine call_set_list (I1.ok.hd hc) pl.isList (by simpa using RZ.intsAre_vals r) (by rw [hlen]; unfold scanBound; omega) fun h' tk hS hk => ?_
  refine PyProof.Rows.args_nil ?_
  rw [hlen] at hS
  obtain ⟨o, es, ep, t, ho, hex, hd, _, _, _, hf, hn⟩ := hS
  have I2 : Inv X pins σ H1 { s1 with heap := h', toks := tk } := I1.kept fun b o e => hk b o (Heap.lt_size e) e
  have hle : (PyProof.Rows.firstMet (fun i => ns.getD i 0) ns.length).length ≤ ns.length := PyProof.Rows.firstMet_length_le _ _
  exact call_len_set ho hex hd hf (by rw [hn] <;> omega) ⟨.int _, H1, I2.tok _, ⟨_, by rw [hn]⟩, q1⟩
theorem ev_lenset {q : Pos} {ns : List Int} (hg : Gl X "len") (hm : X.mg "len" = none) (hg2 : Gl X "set") (hm2 : X.mg "set" = none) (hc : X.calm = true) (na : Pl X a) (ha : EvZ X a σ F (.lst ds)) (hi : intsD ds = some ns) (hl : ns.length ≤ 4000) :
    EvD X (.Call (.Name "len" p) [.Call (.Name "set" p2) [a] [] q] [] pos) σ F 0 (.int (setSize ns)) :=
  fun F1 H e1 e2 Q qq => w_of (pe_lenSet hg hm hg2 hm2 pe_W hc na) (ha F1 H e1 e2 _ fun v F2 H2 st d1 => by
    cases d1 with
    | lst h1 h2 h3 =>
      refine ⟨_, ns, rfl, ?_, hl, give qq st (.int _)⟩
      rw [← ints_dats h2 hi]
      exact .of (st.fh.get h1))

/-! ### isinstance -/
def tyName : D → String
  | .non => "NoneType" | .bl _ => "bool" | .int _ => "int" | .str _ => "str" | .lst _ => "list" | .rol _ => "list" | .tup _ => "tuple" | .rot _ => "tuple" | .dic _ => "dict" | .dicT _ => "dict" | .ins _ _ => "object"
theorem tyIs_some {b : Bool} {d : D} {k : Nat} {z : D} (h : tyIs b d = some (k, z)) : isIns d = false ∧ k = 0 ∧ z = .bl b := by
  unfold tyIs at h
  split at h
  · cases h
  · rename_i hn
    cases h
    exact ⟨by simpa using hn, rfl, rfl⟩
theorem dat_ty {v : V} (fh : Ex F H) (h : Dat X.K F v x) (hn : isIns x = false) : TyX X.K H v (.type (tyName x)) := by
  cases h with
  | non => exact .base .non
  | bl b => exact .base (.bl b)
  | int i => exact .base (.int i)
  | str x => exact .base (.str x)
  | lst h1 h2 h3 => exact .base (.lst (fh.get h1))
  | tup h1 h2 h3 => exact .base (.tup (fh.get h1))
  | rot h1 h2 h3 =>
    rcases h1 with (h1 | ⟨o, h1⟩) | ⟨o, its, n, h1, h2, _⟩
    · exact .base (.tup (fh.get h1))
    · exact .fTuple (fh.get h1)
    · exact .kTuple h1 h2
  | rol h1 h2 =>
    rcases h1 with (h1 | ⟨o, h1⟩) | ⟨o, its, n, h1, h2, _⟩
    · exact .base (.lst (fh.get h1))
    · exact .base (.frz (fh.get h1))
    · exact .kList h1 h2
  | dic h1 h2 h3 h4 =>
    rcases h1 with h1 | ⟨o, h1⟩
    · exact .base (.dK (fh.get h1))
    · exact .fDict (fh.get h1)
  | dicT h1 h2 h3 h4 => exact .base (.dT (fh.get h1))
  | ins _ _ _ _ _ => cases hn
theorem ev_isi {n : Str} {T : String} {t : Bool} (hg : Gl X "isinstance") (hm : X.mg "isinstance" = none) (hg2 : Gl X n) (hm2 : X.mg n = none) (hv : bootBuiltins n = some (.type T)) (hn : n ≠ "__name__") (hdb : (n == ("__debug__" : Str)) = false) (na : Pl X a) (ha : EvZ X a σ F x) (hx : isIns x = false)
    (hk : kitB (tyName x) T = some t) : EvD X (.Call (.Name "isinstance" p) [a, .Name n p2] [] pos) σ F 0 (.bl t) :=
  fun F1 H e1 e2 Q q => w_of (pe_callB call_isi hg hm (show bootBuiltins "isinstance" = some (.builtin "isinstance") by decide +kernel) (pa_cons pe_W (pa_cons (pe_bltn hg2 hm2 hv (v := .ty T) rfl hn hdb) pa_nil rfl) (na _)) (by decide) (by decide) (na _) rfl) (ha F1 H e1 e2 _ fun v F2 H2 st d1 =>
    ⟨v, .ty T, _, _, t, rfl, .ty T, dat_ty st.fh d1 hx, kit_ty hk, give q st (.bl t)⟩)
theorem ty_int (x : D) (hx : isIns x = false) : kitB (tyName x) "int" = some (isIntD x) := by
  cases x <;> first | (cases hx; done) | (simp only [tyName, isIntD, isBlD, isLstD, isTupD, isStrD]; decide +kernel)
theorem ty_bool (x : D) (hx : isIns x = false) : kitB (tyName x) "bool" = some (isBlD x) := by
  cases x <;> first | (cases hx; done) | (simp only [tyName, isIntD, isBlD, isLstD, isTupD, isStrD]; decide +kernel)
theorem ty_list (x : D) (hx : isIns x = false) : kitB (tyName x) "list" = some (isLstD x) := by
  cases x <;> first | (cases hx; done) | (simp only [tyName, isIntD, isBlD, isLstD, isTupD, isStrD]; decide +kernel)
theorem ty_tuple (x : D) (hx : isIns x = false) : kitB (tyName x) "tuple" = some (isTupD x) := by
  cases x <;> first | (cases hx; done) | (simp only [tyName, isIntD, isBlD, isLstD, isTupD, isStrD]; decide +kernel)
theorem ty_str (x : D) (hx : isIns x = false) : kitB (tyName x) "str" = some (isStrD x) := by
  cases x <;> first | (cases hx; done) | (simp only [tyName, isIntD, isBlD, isLstD, isTupD, isStrD]; decide +kernel)

/-! ### list.index -/
theorem indexD_spec {K : PySem.W.Frag} {u : V} (hx : Dat K F u x) (fx : flat x = true) : ∀ {vs : List V} {ds : List D} {n : Nat}, Dats K F vs ds → ds.all flat = true → indexD ds x = some n →
    ∃ z, vs[n]? = some z ∧ eqV z u = true ∧ ∀ (m : Nat) (z' : V), m < n → vs[m]? = some z' → eqV z' u = false
  | _, _, _, .nil, _, h => by cases h
  | v :: vs, d :: ds, n, .cons h1 h2, f, h => by
    rw [List.all_cons, Bool.and_eq_true] at f
    unfold indexD at h
    split at h
    · rename_i hh
      cases h
      exact ⟨v, rfl, by rw [eqF_dat h1 hx f.1 fx]; exact hh, fun m _ hm => absurd hm (Nat.not_lt_zero _)⟩
    · rename_i hh
      obtain ⟨m, hm, rfl⟩ := Option.map_eq_some_iff.mp h
      obtain ⟨z, z1, z2, z3⟩ := indexD_spec hx fx h2 f.2 hm
      refine ⟨z, by simpa using z1, z2, fun j z' hj hz => ?_⟩
      cases j with
      | zero =>
        have e : v = z' := by simpa using hz
        subst e
        rw [eqF_dat h1 hx f.1 fx]
        simpa using hh
      | succ j => exact z3 j z' (by omega) (by simpa using hz)
theorem few1 (na : Pl X b) : ((backTo pos (starEach [b] X.env)).all (fun x => !x.1) && (backToKw pos (keywordEach [] X.env)).all (fun x => x.1.isSome) && decide (([b] : List Expr).length + ([] : List Keyword).length + (if ([] : List Keyword).isEmpty then 0 else 1) < 30)) = true := by
  rw [na []]; rfl
theorem ev_index {apos : Pos} {n : Nat} (ha : EvZ X a σ F (.lst ds)) (hb : EvZ X b σ F x) (h1 : flat x = true) (h2 : ds.all flat = true) (h : indexD ds x = some n) (na : Pl X b)
    (hbase : attributeBase a "index" X.env (eval a X.env) = eval a X.env) (hline : (apos.endLine == pos.line) = true) : EvD X (.Call (.Attribute a "index" apos) [b] [] pos) σ F 0 (.int (n : Nat)) :=
  fun F1 H e1 e2 Q q => w_of (pe_bm PySem.F.plainAttrs_list PySem.F.slot_list_index PySem.F.type_list_index mt_index pe_W (pa_cons pe_W pa_nil (na _)) hbase (few1 na) hline (na _) rfl) (ha F1 H e1 e2 _ fun v F2 H2 st d1 => by
    cases d1 with
    | lst g1 g2 g3 =>
      refine ⟨.inl ⟨rfl, _, .of (st.fh.get g1)⟩, hb F2 H2 (e1.trans st.ff) st.fh _ fun u F3 H3 s2 d2 => ?_⟩
      have g2' := g2.mono s2.ff
      obtain ⟨z, z1, z2, z3⟩ := indexD_spec d2 h1 g2' h2 h
      exact ⟨_, _, u, n, z, rfl, rfl, .of (s2.fh.get (s2.ff.get g1)), flat_dat d2 h1, flat_dats g2' h2, z1, z2, z3, give q (st.trans s2) (.int _)⟩)
end
end PV

set_option Elab.async false
set_option linter.all false
set_option maxRecDepth 100000
set_option maxHeartbeats 1000000
/-! PV, part G: slots, targets, what is walked, comprehensions. -/
namespace PV
open PySem PySem.Spec PyProof.Rows L2
variable [Tabl]

/-! ### slots -/
structure SlotR (K : PySem.W.Frag) (F : Hp) (σ : L2.St) (ρ : Ro) : Prop where
  len : σ.length = ρ.length
  at_ : ∀ (i : Nat) d, ρ[i]? = some (some d) → ∃ v, σ[i]? = some (some v) ∧ Dat K F v d
section
variable {K : PySem.W.Frag} {F F' : Hp} {σ : L2.St} {ρ : Ro}
theorem SlotR.mono (h : SlotR K F σ ρ) (e : Ex F F') : SlotR K F' σ ρ := ⟨h.len, fun i d q => let ⟨v, h1, h2⟩ := h.at_ i d q; ⟨v, h1, h2.mono e⟩⟩
theorem SlotR.set {i : Nat} {v : V} {d : D} (h : SlotR K F σ ρ) (hd : Dat K F v d) : SlotR K F (σ.set i (some v)) (ρ.set i (some d)) := by
  refine ⟨by rw [List.length_set, List.length_set]; exact h.len, fun j d' q => ?_⟩
  by_cases z : i = j
  · subst z
    by_cases hl : i < ρ.length
    · rw [List.getElem?_set_self hl] at q
      cases q
      exact ⟨v, List.getElem?_set_self (by rw [h.len]; exact hl), hd⟩
    · rw [List.getElem?_eq_none (by rw [List.length_set]; omega)] at q; cases q
  · rw [List.getElem?_set_ne z] at q
    rw [List.getElem?_set_ne z]
    exact h.at_ j d' q
theorem SlotR.unset {i : Nat} (h : SlotR K F σ ρ) (o : Option V) : SlotR K F (σ.set i o) (ρ.set i none) := by
  refine ⟨by rw [List.length_set, List.length_set]; exact h.len, fun j d' q => ?_⟩
  by_cases z : i = j
  · subst z
    by_cases hl : i < ρ.length
    · rw [List.getElem?_set_self hl] at q; cases q
    · rw [List.getElem?_eq_none (by rw [List.length_set]; omega)] at q; cases q
  · rw [List.getElem?_set_ne z] at q
    rw [List.getElem?_set_ne z]
    exact h.at_ j d' q
theorem SlotR.wipe (h : SlotR K F σ ρ) : ∀ own : List Nat, SlotR K F (L2.wipe σ own) (wipeR ρ own)
  | [] => h
  | i :: is => (SlotR.wipe h is).unset none
theorem wipe_set {i : Nat} {o : Option V} : ∀ {σ : L2.St} {vs : List Nat}, i ∈ vs → L2.wipe (σ.set i o) vs = L2.wipe σ vs
  | σ, [], h => by cases h
  | σ, v :: vs, h => by
    unfold L2.wipe
    by_cases z : i ∈ vs
    · rw [wipe_set z]
    · have e : i = v := (List.mem_cons.mp h).resolve_right z
      subst e
      have comm : ∀ {σ : L2.St} {ws : List Nat}, i ∉ ws → L2.wipe (σ.set i o) ws = (L2.wipe σ ws).set i o := by
        intro σ ws
        induction ws generalizing σ with
        | nil => intro _; rfl
        | cons w ws ih =>
          intro hw
          have h1 : i ≠ w := fun q => hw (by rw [q]; exact List.mem_cons_self)
          have h2 : i ∉ ws := fun q => hw (List.mem_cons_of_mem _ q)
          unfold L2.wipe
          rw [ih h2, List.set_comm _ _ h1]
      rw [comm z, List.set_set]
end

/-! ### targets -/
def tgIdx : Tg → List Nat
  | .one i => [i]
  | .many is => is
/-- the reading of a target -/
def gMany (K : PySem.W.Frag) : List Nat → TGs
  | [] => gNil
  | i :: is => gCons (gName i) (gMany K is)
def gOf (K : PySem.W.Frag) : Tg → TG
  | .one i => gName i
  | .many is => gTup K is.length (gMany K is)
theorem many_ok {K : PySem.W.Frag} {F : Hp} : ∀ {is : List Nat} {vs : List V} {ds : List D} {σ : L2.St} {ρ : Ro} {H : Hp} {Q : L2.St → Hp → Prop}, SlotR K F σ ρ → Dats K F vs ds → ds.length = is.length →
    (∀ σ', SlotR K F σ' (asgs is ds ρ) → (∀ ws : List Nat, (∀ i ∈ is, i ∈ ws) → L2.wipe σ' ws = L2.wipe σ ws) → Q σ' H) → gMany K is vs σ H Q
  | [], vs, ds, σ, ρ, H, Q, hs, hd, hl, q => by
    have : ds = [] := List.eq_nil_of_length_eq_zero hl
    subst this
    cases hd
    exact ⟨rfl, q σ hs fun _ _ => rfl⟩
  | i :: is, vs, ds, σ, ρ, H, Q, hs, hd, hl, q => by
    cases hd with
    | nil => cases hl
    | cons h1 h2 =>
      refine ⟨_, _, rfl, ?_⟩
      show gMany K is _ (σ.set i (some _)) H Q
      refine many_ok (hs.set (i := i) h1) h2 (by simpa using hl) fun σ' s' w' => q σ' s' fun ws hw => ?_
      rw [w' ws fun j hj => hw j (List.mem_cons_of_mem _ hj), wipe_set (hw i List.mem_cons_self)]
theorem asg_ok {K : PySem.W.Frag} {F H : Hp} {tg : Tg} {v : V} {d : D} {σ : L2.St} {ρ ρ' : Ro} {Q : L2.St → Hp → Prop} (hs : SlotR K F σ ρ) (hd : Dat K F v d) (fh : Ex F H) (h : asg tg d ρ = some ρ')
    (q : ∀ σ', SlotR K F σ' ρ' → (∀ ws : List Nat, (∀ i ∈ tgIdx tg, i ∈ ws) → L2.wipe σ' ws = L2.wipe σ ws) → Q σ' H) : gOf K tg v σ H Q := by
  cases tg with
  | one i =>
    cases h
    exact q _ (hs.set hd) fun ws hw => wipe_set (hw i List.mem_cons_self)
  | many is =>
    cases hd <;> try (cases (show (none : Option Ro) = some ρ' from h))
    rename_i a vs ds h1 h2 h3
    obtain ⟨hl, rfl⟩ := if_some (show (if ds.length = is.length then some (asgs is ds ρ) else none) = some ρ' from h)
    exact ⟨a, vs, rfl, .of (fh.get h1), by rw [h2.length]; exact hl, many_ok hs h2 hl q⟩

/-! ### what is walked -/
structure Walks (K : PySem.W.Frag) (J : It) (F : Hp) (ds : List D) : Prop where
  len : ds.length ≤ cap
  go : ∀ i H, Ex F H → i < ds.length → J.go i H
  stop : ∀ H, Ex F H → J.stop ds.length H
  yld : ∀ (i : Nat) H x H' d F', Ex F F' → Fh F' H → ds[i]? = some d → J.yld i H x H' → ∃ F2, Stp F' H F2 H' ∧ Dat K F2 x d
def WI (X : Cx) (tg iter : Expr) : TI := fun σ H R => ∀ pins s, Inv X pins σ H s → wpAny (model X.prog X.w) X.A (eval iter X.env) (fun v s1 => wpAny (model X.prog X.w) X.A (pyIter v) (PIE X pins σ tg R) X.xe s1) X.xe s
theorem pi_W {X : Cx} {tg iter : Expr} : PI X tg iter (WI X tg iter) := ⟨fun pins s _ _ _ I h => h pins s I⟩
theorem wi_of {X : Cx} {tg iter : Expr} {t : TI} (h : PI X tg iter t) {σ : L2.St} {H : Hp} {R : It → Hp → Prop} (q : t σ H R) : WI X tg iter σ H R := fun pins s I => h.run pins s σ H R I q
def EvI (X : Cx) (tg iter : Expr) (σ : L2.St) (F : Hp) (ds : List D) : Prop :=
  ∀ F1 H, Ex F F1 → Fh F1 H → ∀ R : It → Hp → Prop, (∀ J F2 H2, Stp F1 H F2 H2 → Walks X.K J F2 ds → R J H2) → WI X tg iter σ H R
section
variable {X : Cx} {tg e a b : Expr} {σ : L2.St} {F F1 H : Hp} {d x y : D} {ds es : List D} {k : Nat} {pos p : Pos}
theorem getElem?_lt {α : Type} {l : List α} {i : Nat} (h : i < l.length) : ∃ x, l[i]? = some x := ⟨l[i], List.getElem?_eq_getElem h⟩
theorem ei_lst (h : EvZ X e σ F (.lst ds)) : EvI X tg e σ F ds := fun F1 H e1 e2 R q => wi_of (pi_list pe_W) (h F1 H e1 e2 _ fun v F2 H2 st d1 => by
  cases d1 with
  | lst h1 h2 h3 =>
    rename_i a vs
    refine ⟨a, rfl, ⟨vs, .of (st.fh.get h1)⟩, q _ F2 H2 st ⟨h3, fun i H fh hi => ?_, fun H fh => ⟨vs, .of (fh.get h1), by rw [h2.length]; exact Nat.le_refl _⟩, fun i H x H' d F' ef fh hd hy => ?_⟩⟩
    · obtain ⟨v, hv⟩ := getElem?_lt (show i < vs.length by rw [h2.length]; exact hi)
      exact ⟨vs, v, .of (fh.get h1), hv⟩
    · obtain ⟨rfl, hx⟩ := hy
      obtain ⟨v, hv, dv⟩ := h2.get hd
      have := hx vs (.of (fh.get (ef.get h1)))
      rw [hv] at this
      cases this
      exact ⟨F', .refl fh, dv.mono ef⟩)
theorem ei_tupC {tg : Expr} {l : Expr} {vs : List V} {a : Addr} (hs : SqT X.K F1 a vs) (h2 : Dats X.K F1 vs ds) (h3 : ds.length ≤ cap) : Walks X.K (Itt X.K a) F1 ds :=
  ⟨h3, fun i H fh hi => by
    obtain ⟨v, hv⟩ := getElem?_lt (show i < vs.length by rw [h2.length]; exact hi)
    exact ⟨vs, v, ex_t fh hs, hv⟩, fun H fh => ⟨vs, ex_t fh hs, by rw [h2.length]; exact Nat.le_refl _⟩, fun i H x H' d F' ef fh hd hy => by
    obtain ⟨rfl, hx⟩ := hy
    obtain ⟨v, hv, dv⟩ := h2.get hd
    have := hx vs (ex_t (ef.trans fh) hs)
    rw [hv] at this
    cases this
    exact ⟨F', .refl fh, dv.mono ef⟩⟩
theorem ei_tup (h : EvZ X e σ F (.tup ds)) : EvI X tg e σ F ds := fun F1 H e1 e2 R q => wi_of (pi_tup pe_W) (h F1 H e1 e2 _ fun v F2 H2 st d1 => by
  cases d1 with
  | tup h1 h2 h3 => exact ⟨_, rfl, ⟨_, .of (st.fh.get h1)⟩, q _ F2 H2 st (ei_tupC (tg := tg) (l := e) (.of h1) h2 h3)⟩)
theorem ei_rot (h : EvZ X e σ F (.rot ds)) : EvI X tg e σ F ds := fun F1 H e1 e2 R q => wi_of (pi_tup pe_W) (h F1 H e1 e2 _ fun v F2 H2 st d1 => by
  cases d1 with
  | rot h1 h2 h3 => exact ⟨_, rfl, ⟨_, ex_t st.fh h1⟩, q _ F2 H2 st (ei_tupC (tg := tg) (l := e) h1 h2 h3)⟩)
theorem rngD_length (n : Int) : (rngD n).length = n.toNat := by unfold rngD; rw [List.length_map, List.length_range]
theorem ei_rng {n : Int} (hg : Gl X "range") (hm : X.mg "range" = none) (na : Pl X a) (h : EvZ X a σ F (.int n)) (hn : n ≤ cap) (hn2 : -(2 ^ 62) ≤ n) : EvI X tg (.Call (.Name "range" p) [a] [] pos) σ F (rngD n) :=
  fun F1 H e1 e2 R q => wi_of (pi_range1 hg hm (pa_cons pe_W pa_nil (na [])) (na [])) (h F1 H e1 e2 _ fun v F2 H2 st d1 => by
    cases d1
    refine ⟨n, rfl, hn2, ?_, q _ F2 H2 st ⟨by rw [rngD_length]; have : (cap : Int) = 100000 := rfl; have : cap = 100000 := rfl; omega, fun i H fh hi => ?_, fun H fh => ?_, fun i H x H' d F' ef fh hd hy => ?_⟩⟩
    · have : (cap : Int) = 100000 := rfl
      omega
    · show i < n.toNat
      rw [← rngD_length]; exact hi
    · show n.toNat ≤ _
      rw [rngD_length]; exact Nat.le_refl _
    · obtain ⟨rfl, rfl⟩ := hy
      refine ⟨F', .refl fh, ?_⟩
      unfold rngD at hd
      rw [List.getElem?_map] at hd
      obtain ⟨j, hj, rfl⟩ := Option.map_eq_some_iff.mp hd
      have : i = j := by
        obtain ⟨hl, e⟩ := List.getElem?_eq_some_iff.mp hj
        rw [List.getElem_range] at e; exact e
      subst this
      rw [Int.zero_add]
      exact .int _)
theorem enumD_length : ∀ (n : Nat) (ds : List D), (enumD n ds).length = ds.length
  | _, [] => rfl
  | n, d :: ds => by unfold enumD; rw [List.length_cons, List.length_cons, enumD_length]
theorem enumD_get : ∀ (n i : Nat) (ds : List D) (d : D), (enumD n ds)[i]? = some d → ∃ x, ds[i]? = some x ∧ d = .tup [.int ((n + i : Nat) : Int), x]
  | _, _, [], _, h => by simp [enumD] at h
  | n, 0, x :: ds, d, h => by
    simp only [enumD, List.getElem?_cons_zero, Option.some.injEq] at h
    exact ⟨x, rfl, h.symm⟩
  | n, i + 1, x :: ds, d, h => by
    simp only [enumD, List.getElem?_cons_succ] at h
    obtain ⟨y, h1, h2⟩ := enumD_get (n + 1) i ds d h
    exact ⟨y, by simpa using h1, by rw [h2, show n + 1 + i = n + (i + 1) by omega]⟩
theorem ei_enm {elts : List Expr} {kk : Nat} {tpos : Pos} (hg : Gl X "enumerate") (hm : X.mg "enumerate" = none) (na : Pl X a) (h : EvZ X a σ F (.lst ds)) : EvI X (.Tuple elts kk tpos) (.Call (.Name "enumerate" p) [a] [] pos) σ F (enumD 0 ds) :=
  fun F1 H e1 e2 R q => wi_of (pi_enum hg hm (pa_cons pe_W pa_nil (na [])) (na [])) (h F1 H e1 e2 _ fun v F2 H2 st d1 => by
    cases d1 with
    | lst h1 h2 h3 =>
      rename_i a vs
      refine ⟨a, vs, rfl, .of (st.fh.get h1), q _ F2 H2 st ⟨by rw [enumD_length]; exact h3, fun i H fh hi => ?_, fun H fh => ⟨vs, .of (fh.get h1), by rw [h2.length, enumD_length]; exact Nat.le_refl _⟩, fun i H x H' d F' ef fh hd hy => ?_⟩⟩
      · obtain ⟨v, hv⟩ := getElem?_lt (show i < vs.length by rw [h2.length, ← enumD_length 0]; exact hi)
        exact ⟨vs, v, .of (fh.get h1), hv⟩
      · obtain ⟨T, w, rfl, hT, rfl, hw⟩ := hy
        obtain ⟨y, hy, rfl⟩ := enumD_get 0 i ds d hd
        obtain ⟨v, hv, dv⟩ := h2.get hy
        have := hw vs (.of (fh.get (ef.get h1)))
        rw [hv] at this
        cases this
        refine ⟨_, .new fh hT, dat_tup fh hT (.cons ?_ (.one (dv.mono ef))) (show 2 ≤ cap by decide)⟩
        rw [Nat.zero_add]
        exact .int _)
theorem zipD_length : ∀ (ds es : List D), (zipD ds es).length = min ds.length es.length
  | [], _ => by simp [zipD]
  | _ :: _, [] => by simp [zipD]
  | d :: ds, e :: es => by unfold zipD; rw [List.length_cons, List.length_cons, List.length_cons, zipD_length]; omega
theorem zipD_get : ∀ (i : Nat) (ds es : List D) (d : D), (zipD ds es)[i]? = some d → ∃ x y, ds[i]? = some x ∧ es[i]? = some y ∧ d = .tup [x, y]
  | _, [], _, _, h => by simp [zipD] at h
  | _, _ :: _, [], _, h => by simp [zipD] at h
  | 0, x :: ds, y :: es, d, h => by
    simp only [zipD, List.getElem?_cons_zero, Option.some.injEq] at h
    exact ⟨x, y, rfl, rfl, h.symm⟩
  | i + 1, x :: ds, y :: es, d, h => by
    simp only [zipD, List.getElem?_cons_succ] at h
    obtain ⟨u, w, h1, h2, h3⟩ := zipD_get i ds es d h
    exact ⟨u, w, by simpa using h1, by simpa using h2, h3⟩
theorem ei_zip {elts : List Expr} {kk : Nat} {tpos : Pos} (hg : Gl X "zip") (hm : X.mg "zip" = none) (na : Pl X a) (nb : Pl X b) (ha : EvZ X a σ F (.lst ds)) (hb : EvZ X b σ F (.lst es)) : EvI X (.Tuple elts kk tpos) (.Call (.Name "zip" p) [a, b] [] pos) σ F (zipD ds es) :=
  fun F1 H e1 e2 R q => wi_of (pi_zip hg hm (pa_cons pe_W (pa_cons pe_W pa_nil (nb [])) (na _)) (na _) (by rw [nb []]; rfl)) (ev2 ha hb e1 e2 fun v u F2 H2 st d1 d2 => by
    cases d1 with
    | lst h1 h2 h3 =>
      cases d2 with
      | lst g1 g2 g3 =>
        rename_i a vs b ws
        refine ⟨a, b, vs, ws, rfl, .of (st.fh.get h1), .of (st.fh.get g1), q _ F2 H2 st ⟨by rw [zipD_length]; omega, fun i H fh hi => ?_, fun H fh => ⟨vs, ws, .of (fh.get h1), .of (fh.get g1), ?_⟩, fun i H x H' d F' ef fh hd hy => ?_⟩⟩
        · rw [zipD_length] at hi
          obtain ⟨v, hv⟩ := getElem?_lt (show i < vs.length by rw [h2.length]; omega)
          obtain ⟨w, hw⟩ := getElem?_lt (show i < ws.length by rw [g2.length]; omega)
          exact ⟨vs, ws, v, w, .of (fh.get h1), .of (fh.get g1), hv, hw⟩
        · rw [zipD_length, h2.length, g2.length]; omega
        · obtain ⟨T, w, w', rfl, hT, rfl, hw, hw'⟩ := hy
          obtain ⟨y, y', hy, hy', rfl⟩ := zipD_get i ds es d hd
          obtain ⟨v, hv, dv⟩ := h2.get hy
          obtain ⟨u, hu, du⟩ := g2.get hy'
          have z1 := hw vs (.of (fh.get (ef.get h1)))
          have z2 := hw' ws (.of (fh.get (ef.get g1)))
          rw [hv] at z1
          rw [hu] at z2
          cases z1; cases z2
          exact ⟨_, .new fh hT, dat_tup fh hT (.cons (dv.mono ef) (.one (du.mono ef))) (show 2 ≤ cap by decide)⟩)
end
end PV

set_option Elab.async false
set_option linter.all false
set_option maxRecDepth 100000
set_option maxHeartbeats 1000000
/-! PV, part H: comprehensions; dicts walked (locked). -/
namespace PV
open PySem PySem.Spec PyProof.Rows L2
variable [Tabl]
theorem Stp.updD {F H F' H' : Hp} {p : Addr} {o u : HO} (st : Stp F H F' H') (h1 : F' p = none) (h2 : H p = none) (h3 : H' p = some u) (n : isTE u = false := by rfl) : Stp F H F' (upd H' p o) :=
  ⟨st.ff, st.hh.updR h2, ⟨st.fh.toEx.updR h1, tabs_upd st.fh.tabs h3 n⟩, st.nw⟩
theorem Stp.lse {F H F' H' : Hp} {p : Addr} (st : Stp F H F' H') (h1 : F p = none) (h2 : H p ≠ none) : F' p = none := by
  cases q : F' p with
  | none => rfl
  | some u =>
    rcases st.nw p (by rw [q]; exact fun z => nomatch z) with z | z
    · exact absurd h1 z
    · exact absurd z h2
def WTs (X : Cx) (ifs : List Expr) : TT := fun σ H Q => ∀ pins s, Inv X pins σ H s →
    wpAny (model X.prog X.w) X.A (forIn ifs true fun c r => if r = true then do let ok ← isTrue c X.env (eval c X.env); pure (ForInStep.yield ok) else pure (ForInStep.yield r)) (TP X pins σ Q) X.xe s
theorem pts_W {X : Cx} {ifs : List Expr} : PTs X ifs (WTs X ifs) := ⟨fun pins s _ _ _ I h => h pins s I⟩
theorem wts_of {X : Cx} {ifs : List Expr} {t : TT} (h : PTs X ifs t) {σ : L2.St} {H : Hp} {Q : Bool → Hp → Prop} (q : t σ H Q) : WTs X ifs σ H Q := fun pins s I => h.run pins s σ H Q I q
def EvTs (X : Cx) (ifs : List Expr) (σ : L2.St) (F : Hp) (b : Bool) : Prop :=
  ∀ F1 H, Ex F F1 → Fh F1 H → ∀ Q : Bool → Hp → Prop, (∀ F2 H2, Stp F1 H F2 H2 → Q b H2) → WTs X ifs σ H Q
theorem ets_nil {X : Cx} {σ : L2.St} {F : Hp} : EvTs X [] σ F true := fun F1 H e1 e2 Q q => wts_of pts_nil (q F1 H (.refl e2))
theorem ets_one {X : Cx} {c : Expr} {σ : L2.St} {F : Hp} {b : Bool} (h : EvT X c σ F b) : EvTs X [c] σ F b := fun F1 H e1 e2 Q q => wts_of (pts_one pt_W) (h F1 H e1 e2 Q q)

section
variable {X : Cx} {elt tgE iter : Expr} {ifs : List Expr} {scope : Scope} {own : List (Str × Nat)} {pos : Pos} {tg : Tg} {σ : L2.St} {F : Hp} {ρ : Ro} {ds ys : List D} {t g : Ro → Option (Nat × D)}
theorem lcL_len (tg : Tg) (t g : Ro → Option (Nat × D)) (ρ : Ro) : ∀ (ds ys : List D), lcL tg t g ρ ds = some ys → ys.length ≤ ds.length
  | [], ys, h => by cases h; exact Nat.le_refl _
  | d :: ds, ys, h => by
    unfold lcL at h
    split at h
    · cases h
    · split at h
      · split at h
        · split at h
          · rename_i zs hz
            cases h
            have := lcL_len tg t g ρ ds zs hz
            simp only [List.length_cons]; omega
          · cases h
        · cases h
      · have := lcL_len tg t g ρ ds ys h
        simp only [List.length_cons]; omega
      · cases h
/-- the reading of a list comprehension -/
theorem lc_read (hi : EvI X tgE iter σ F ds) (hs : SlotR X.K F σ ρ) (hsub : ∀ i ∈ tgIdx tg, i ∈ own.map (·.2))
    {tt : TT} {te : TE}
    (ht : ∀ F' σ' ρ' b k, Ex F F' → SlotR X.K F' σ' ρ' → t ρ' = some (k, .bl b) → ∀ F1 H, Ex F' F1 → Fh F1 H → ∀ Q : Bool → Hp → Prop, (∀ F2 H2, Stp F1 H F2 H2 → Q b H2) → tt σ' H Q)
    (he : ∀ F' σ' ρ' k y, Ex F F' → SlotR X.K F' σ' ρ' → g ρ' = some (k, y) → ∀ F1 H, Ex F' F1 → Fh F1 H → ∀ Q : VK, (∀ v F2 H2, Stp F1 H F2 H2 → Dat X.K F2 v y → Q v H2) → te σ' H Q)
    (h : lcL tg t g (wipeR ρ (own.map (·.2))) ds = some ys) {F1 H : Hp} (e1 : Ex F F1) (e2 : Fh F1 H) {Q : VK}
    (q : ∀ v F2 H2 fp, Stp F1 H F2 H2 → Own X.K F2 H2 1 v (.lst ys) fp → (∀ a ∈ fp, H a = none) → Q v H2) : tLc (WI X tgE iter) (gOf X.K tg) tt te (own.map (·.2)) σ H Q := by
  refine hi F1 H e1 e2 _ fun J Fa Ha sa wk => fun D hD => ?_
  have hylen := lcL_len _ _ _ _ _ _ h
  have hl := wk.len
  refine ⟨fun i m H' => i + m = ds.length ∧ ∃ F' vs ya yb, Stp F1 H F' H' ∧ Ex Fa F' ∧ H' D = some (.lst vs) ∧ F' D = none ∧ Dats X.K F' vs ya ∧ lcL tg t g (wipeR ρ (own.map (·.2))) (ds.drop i) = some yb ∧ ys = ya ++ yb,
    ⟨ds.length, by omega, Fa, [], [], ys, (sa.trans (.loose sa.fh hD)), .refl _, upd_same, sa.fh.free hD, .nil, by rw [List.drop_zero]; exact h, rfl⟩, ?_⟩
  rintro i m H' ⟨hm, F', vs, ya, yb, st, fa, hD', hF', hv, hyb, rfl⟩
  have hDH : H D = none := sa.hh.free hD
  by_cases hlt : i < ds.length
  · obtain ⟨d, hd⟩ := getElem?_lt hlt
    have hdrop : ds.drop i = d :: ds.drop (i + 1) := by
      obtain ⟨hl', e⟩ := List.getElem?_eq_some_iff.mp hd
      rw [← e]; exact List.drop_eq_getElem_cons hl'
    refine .inr ⟨wk.go i H' (fa.trans st.fh) hlt, fun H'' => i + 1 + (m - 1) = ds.length ∧ ∃ F' vs ya' yb', Stp F1 H F' H'' ∧ Ex Fa F' ∧ H'' D = some (.lst vs) ∧ F' D = none ∧ Dats X.K F' vs ya' ∧ lcL tg t g (wipeR ρ (own.map (·.2))) (ds.drop (i + 1)) = some yb' ∧ ya ++ yb = ya' ++ yb',
      fun H'' hn => ⟨m - 1, by omega, hn⟩, fun x Hx hy => ?_⟩
    obtain ⟨Fx, sx, dx⟩ := wk.yld i H' x Hx d F' fa st.fh hd hy
    rw [hdrop] at hyb
    unfold lcL at hyb
    split at hyb
    · cases hyb
    · rename_i ρ1 hasg
      have hsx : SlotR X.K Fx (L2.wipe σ (own.map (·.2))) (wipeR ρ (own.map (·.2))) := (hs.mono (e1.trans (st.ff.trans sx.ff))).wipe _
      refine asg_ok hsx dx sx.fh hasg fun σ2 hs2 hw => ⟨?_, ?_⟩
      · rw [hw _ hsub]
        have : ∀ (ws : List Nat) (σ : L2.St), L2.wipe (L2.wipe σ ws) ws = L2.wipe σ ws := by
          intro ws σ
          have gen : ∀ (us : List Nat) (σ : L2.St), (∀ i ∈ us, i ∈ ws) → L2.wipe (L2.wipe σ us) ws = L2.wipe σ ws := by
            intro us
            induction us with
            | nil => intro σ _; rfl
            | cons u us ih =>
              intro σ hu
              show L2.wipe ((L2.wipe σ us).set u none) ws = _
              rw [wipe_set (hu u List.mem_cons_self), ih σ fun j hj => hu j (List.mem_cons_of_mem _ hj)]
          exact gen ws σ fun _ h => h
        exact this _ _
      have efx : Ex F Fx := e1.trans (st.ff.trans sx.ff)
      have lx : Fx D = none := sx.lse hF' (by rw [hD']; exact fun z => nomatch z)
      split at hyb
      · rename_i kk hcond
        refine ht Fx σ2 ρ1 true kk efx hs2 hcond Fx Hx (.refl _) sx.fh _ fun F3 H3 s3 => iteT ?_
        split at hyb
        · rename_i k2 y hy2
          refine he Fx σ2 ρ1 k2 y efx hs2 hy2 F3 H3 s3.ff s3.fh _ fun v F4 H4 s4 dv => ?_
          have hxD : Hx D = some (.lst vs) := sx.hh.get hD'
          have h3D : H3 D = some (.lst vs) := s3.hh.get hxD
          have h4D : H4 D = some (.lst vs) := s4.hh.get h3D
          have l3 : F3 D = none := s3.lse lx (by rw [hxD]; exact fun z => nomatch z)
          have l4 : F4 D = none := s4.lse l3 (by rw [h3D]; exact fun z => nomatch z)
          split at hyb
          · rename_i zs hzs
            cases hyb
            have hvl := hv.length
            refine ⟨vs, h4D, cap_lt ?_, by omega, F4, vs ++ [v], ya ++ [y], zs, (((st.trans sx).trans s3).trans s4).updD l4 hDH h4D, fa.trans (sx.ff.trans (s3.ff.trans s4.ff)), upd_same, l4, (hv.mono (sx.ff.trans (s3.ff.trans s4.ff))).app (.one dv), hzs, by simp⟩
            have : ya.length ≤ ds.length := by
              have := hylen
              rw [List.length_append] at this
              omega
            omega
          · cases hyb
        · cases hyb
      · rename_i kk hcond
        refine ht Fx σ2 ρ1 false kk efx hs2 hcond Fx Hx (.refl _) sx.fh _ fun F3 H3 s3 => iteF ?_
        have hxD : Hx D = some (.lst vs) := sx.hh.get hD'
        have h3D : H3 D = some (.lst vs) := s3.hh.get hxD
        have l3 : F3 D = none := s3.lse lx (by rw [hxD]; exact fun z => nomatch z)
        exact ⟨by omega, F3, vs, ya, yb, (st.trans sx).trans s3, fa.trans (sx.ff.trans s3.ff), h3D, l3, hv.mono (sx.ff.trans s3.ff), hyb, rfl⟩
      · cases hyb
  · have e : i = ds.length := by omega
    subst e
    rw [List.drop_length] at hyb
    cases hyb
    rw [List.append_nil] at q hylen
    refine .inl ⟨wk.stop H' (fa.trans st.fh), q _ F' H' [D] st (.lst hD' hF' (owns_zero hv) (by simp) (by omega)) fun a ha => ?_⟩
    have e : a = D := by simpa using ha
    rw [e]; exact hDH
end
end PV

set_option Elab.async false
set_option linter.all false
set_option maxRecDepth 100000
set_option maxHeartbeats 1000000
/-! PV, part I: dict comprehensions; dicts walked (locked). -/
namespace PV
open PySem PySem.Spec PyProof.Rows L2
variable [Tabl]
section
variable {K : PySem.W.Frag} {F : Hp} {κ : Type} [DecidableEq κ]
theorem put_dat {kvs : List (κ × V)} {ds : List (κ × D)} {k : κ} {v : V} {d : D} (hk : kvs.map (·.1) = ds.map (·.1)) (hv : Dats K F (kvs.map (·.2)) (ds.map (·.2))) (h : Dat K F v d) :
    (putK kvs k v).map (·.1) = (putD ds k d).map (·.1) ∧ Dats K F ((putK kvs k v).map (·.2)) ((putD ds k d).map (·.2)) := by
  have any_eq : ∀ {kvs : List (κ × V)} {ds : List (κ × D)}, kvs.map (·.1) = ds.map (·.1) → (kvs.any fun kv => decide (kv.1 = k)) = ds.any fun kv => decide (kv.1 = k) := by
    intro kvs
    induction kvs with
    | nil => intro ds e; cases ds with
      | nil => rfl
      | cons _ _ => simp at e
    | cons p r ih => intro ds e; cases ds with
      | nil => simp at e
      | cons q s =>
        simp only [List.map_cons, List.cons.injEq] at e
        rw [List.any_cons, List.any_cons, e.1, ih e.2]
  unfold putK putD
  rw [any_eq hk]
  split
  · refine ⟨?_, ?_⟩
    · have f1 : ∀ (l : List (κ × V)), (l.map fun kv => if kv.1 = k then (kv.1, v) else kv).map (·.1) = l.map (·.1) := by
        intro l; rw [List.map_map]; congr 1; funext kv; simp only [Function.comp]; split <;> rfl
      have f2 : ∀ (l : List (κ × D)), (l.map fun kv => if kv.1 = k then (kv.1, d) else kv).map (·.1) = l.map (·.1) := by
        intro l; rw [List.map_map]; congr 1; funext kv; simp only [Function.comp]; split <;> rfl
      rw [f1, f2]; exact hk
    · have go : ∀ {kvs : List (κ × V)} {ds : List (κ × D)}, kvs.map (·.1) = ds.map (·.1) → Dats K F (kvs.map (·.2)) (ds.map (·.2)) → Dats K F ((kvs.map fun kv => if kv.1 = k then (kv.1, v) else kv).map (·.2)) ((ds.map fun kv => if kv.1 = k then (kv.1, d) else kv).map (·.2)) := by
        intro kvs
        induction kvs with
        | nil => intro ds e _; cases ds with
          | nil => exact .nil
          | cons _ _ => simp at e
        | cons p r ih => intro ds e hv; cases ds with
          | nil => simp at e
          | cons q s =>
            simp only [List.map_cons, List.cons.injEq] at e
            cases hv with
            | cons g1 g2 =>
              simp only [List.map_cons]
              refine .cons ?_ (ih e.2 g2)
              rw [e.1]
              split
              · exact h
              · exact g1
      exact go hk hv
  · refine ⟨?_, ?_⟩
    · rw [List.map_append, List.map_append, hk]; rfl
    · rw [List.map_append, List.map_append]; exact hv.app (.one h)
theorem putD_le (ds : List (κ × D)) (k : κ) (d : D) : (putD ds k d).length ≤ ds.length + 1 := by
  unfold putD
  split
  · rw [List.length_map]; omega
  · rw [List.length_append]; exact Nat.le_refl _
theorem drop_dat {k : κ} : ∀ {kvs : List (κ × V)} {ds : List (κ × D)}, kvs.map (·.1) = ds.map (·.1) → Dats K F (kvs.map (·.2)) (ds.map (·.2)) →
    (dropK kvs k).map (·.1) = (dropD ds k).map (·.1) ∧ Dats K F ((dropK kvs k).map (·.2)) ((dropD ds k).map (·.2))
  | [], [], _, _ => ⟨rfl, .nil⟩
  | [], _ :: _, e, _ => by simp at e
  | _ :: _, [], e, _ => by simp at e
  | (a, v) :: r, (b, d) :: s, e, h => by
    simp only [List.map_cons, List.cons.injEq] at e
    obtain ⟨e1, e2⟩ := e
    subst e1
    cases h with
    | cons h1 h2 =>
      obtain ⟨i1, i2⟩ := drop_dat (k := k) e2 h2
      unfold dropK dropD at i1 i2 ⊢
      by_cases z : a = k
      · simp only [List.filter_cons, z, ne_eq, not_true_eq_false, decide_false, Bool.false_eq_true, if_false]
        exact ⟨i1, i2⟩
      · simp only [List.filter_cons, z, ne_eq, not_false_eq_true, decide_true, if_true, List.map_cons]
        exact ⟨by rw [i1], .cons h1 i2⟩
end
section
variable {X : Cx} {kx vx tgE iter : Expr} {ifs : List Expr} {scope : Scope} {own : List (Str × Nat)} {pos : Pos} {tg : Tg} {σ : L2.St} {F : Hp} {ρ : Ro} {ds : List D} {ys : List (Key × D)} {t gk gv : Ro → Option (Nat × D)}
/-- the reading of a dict comprehension -/
theorem dc_read (hi : EvI X tgE iter σ F ds) (hs : SlotR X.K F σ ρ) (hsub : ∀ i ∈ tgIdx tg, i ∈ own.map (·.2))
    {tt : TT} {tk tv : TE}
    (ht : ∀ F' σ' ρ' b k, Ex F F' → SlotR X.K F' σ' ρ' → t ρ' = some (k, .bl b) → ∀ F1 H, Ex F' F1 → Fh F1 H → ∀ Q : Bool → Hp → Prop, (∀ F2 H2, Stp F1 H F2 H2 → Q b H2) → tt σ' H Q)
    (hk : ∀ F' σ' ρ' k y, Ex F F' → SlotR X.K F' σ' ρ' → gk ρ' = some (k, y) → ∀ F1 H, Ex F' F1 → Fh F1 H → ∀ Q : VK, (∀ v F2 H2, Stp F1 H F2 H2 → Dat X.K F2 v y → Q v H2) → tk σ' H Q)
    (he : ∀ F' σ' ρ' k y, Ex F F' → SlotR X.K F' σ' ρ' → gv ρ' = some (k, y) → ∀ F1 H, Ex F' F1 → Fh F1 H → ∀ Q : VK, (∀ v F2 H2, Stp F1 H F2 H2 → Dat X.K F2 v y → Q v H2) → tv σ' H Q)
    (h : dcL tg t gk gv (wipeR ρ (own.map (·.2))) ds [] = some ys) {F1 H : Hp} (e1 : Ex F F1) (e2 : Fh F1 H) {Q : VK}
    (q : ∀ v F2 H2 fp, Stp F1 H F2 H2 → Own X.K F2 H2 1 v (.dic ys) fp → (∀ a ∈ fp, H a = none) → Q v H2) : tDc (WI X tgE iter) (gOf X.K tg) tt tk tv (own.map (·.2)) σ H Q := by
  refine hi F1 H e1 e2 _ fun J Fa Ha sa wk => fun D hD => ?_
  have hl := wk.len
  refine ⟨fun i m H' => i + m = ds.length ∧ ∃ F' kvs acc, Stp F1 H F' H' ∧ Ex Fa F' ∧ H' D = some (.dK kvs) ∧ F' D = none ∧ kvs.map (·.1) = acc.map (·.1) ∧ Dats X.K F' (kvs.map (·.2)) (acc.map (·.2)) ∧ acc.length ≤ i ∧ dcL tg t gk gv (wipeR ρ (own.map (·.2))) (ds.drop i) acc = some ys,
    ⟨ds.length, by omega, Fa, [], [], (sa.trans (.loose sa.fh hD)), .refl _, upd_same, sa.fh.free hD, rfl, .nil, Nat.le_refl _, by rw [List.drop_zero]; exact h⟩, ?_⟩
  rintro i m H' ⟨hm, F', kvs, acc, st, fa, hD', hF', hkk, hv, hal, hyb⟩
  have hDH : H D = none := sa.hh.free hD
  by_cases hlt : i < ds.length
  · obtain ⟨d, hd⟩ := getElem?_lt hlt
    have hdrop : ds.drop i = d :: ds.drop (i + 1) := by
      obtain ⟨hl', e⟩ := List.getElem?_eq_some_iff.mp hd
      rw [← e]; exact List.drop_eq_getElem_cons hl'
    refine .inr ⟨wk.go i H' (fa.trans st.fh) hlt, fun H'' => i + 1 + (m - 1) = ds.length ∧ ∃ F' kvs acc, Stp F1 H F' H'' ∧ Ex Fa F' ∧ H'' D = some (.dK kvs) ∧ F' D = none ∧ kvs.map (·.1) = acc.map (·.1) ∧ Dats X.K F' (kvs.map (·.2)) (acc.map (·.2)) ∧ acc.length ≤ i + 1 ∧ dcL tg t gk gv (wipeR ρ (own.map (·.2))) (ds.drop (i + 1)) acc = some ys,
      fun H'' hn => ⟨m - 1, by omega, hn⟩, fun x Hx hy => ?_⟩
    obtain ⟨Fx, sx, dx⟩ := wk.yld i H' x Hx d F' fa st.fh hd hy
    rw [hdrop] at hyb
    unfold dcL at hyb
    split at hyb
    · cases hyb
    · rename_i ρ1 hasg
      have hsx : SlotR X.K Fx (L2.wipe σ (own.map (·.2))) (wipeR ρ (own.map (·.2))) := (hs.mono (e1.trans (st.ff.trans sx.ff))).wipe _
      refine asg_ok hsx dx sx.fh hasg fun σ2 hs2 hw => ⟨?_, ?_⟩
      · rw [hw _ hsub]
        have : ∀ (ws : List Nat) (σ : L2.St), L2.wipe (L2.wipe σ ws) ws = L2.wipe σ ws := by
          intro ws σ
          have gen : ∀ (us : List Nat) (σ : L2.St), (∀ i ∈ us, i ∈ ws) → L2.wipe (L2.wipe σ us) ws = L2.wipe σ ws := by
            intro us
            induction us with
            | nil => intro σ _; rfl
            | cons u us ih =>
              intro σ hu
              show L2.wipe ((L2.wipe σ us).set u none) ws = _
              rw [wipe_set (hu u List.mem_cons_self), ih σ fun j hj => hu j (List.mem_cons_of_mem _ hj)]
          exact gen ws σ fun _ h => h
        exact this _ _
      have efx : Ex F Fx := e1.trans (st.ff.trans sx.ff)
      have lx : Fx D = none := sx.lse hF' (by rw [hD']; exact fun z => nomatch z)
      have hxD : Hx D = some (.dK kvs) := sx.hh.get hD'
      split at hyb
      · rename_i kk hcond
        refine ht Fx σ2 ρ1 true kk efx hs2 hcond Fx Hx (.refl _) sx.fh _ fun F3 H3 s3 => iteT ?_
        split at hyb
        · rename_i k2 y k3 z hy2 hz2
          refine hk Fx σ2 ρ1 k2 y efx hs2 hy2 F3 H3 s3.ff s3.fh _ fun v F4 H4 s4 dv => ?_
          refine he Fx σ2 ρ1 k3 z efx hs2 hz2 F4 H4 (s3.ff.trans s4.ff) s4.fh _ fun u F5 H5 s5 du => ?_
          have h3D : H3 D = some (.dK kvs) := s3.hh.get hxD
          have h4D : H4 D = some (.dK kvs) := s4.hh.get h3D
          have h5D : H5 D = some (.dK kvs) := s5.hh.get h4D
          have l3 : F3 D = none := s3.lse lx (by rw [hxD]; exact fun z => nomatch z)
          have l4 : F4 D = none := s4.lse l3 (by rw [h3D]; exact fun z => nomatch z)
          have l5 : F5 D = none := s5.lse l4 (by rw [h4D]; exact fun z => nomatch z)
          split at hyb
          · rename_i key hkey
            have hvl : kvs.length = acc.length := by simpa using congrArg List.length hkk
            have m5 := hv.mono (sx.ff.trans (s3.ff.trans (s4.ff.trans s5.ff)))
            obtain ⟨p1, p2⟩ := put_dat (k := key) hkk m5 du
            exact ⟨kvs, key, key_dat dv hkey, h5D, cap_lt (by omega), by omega, F5, _, _, ((((st.trans sx).trans s3).trans s4).trans s5).updD l5 hDH h5D, fa.trans (sx.ff.trans (s3.ff.trans (s4.ff.trans s5.ff))), upd_same, l5, p1, p2, Nat.le_trans (putD_le _ _ _) (by omega), hyb⟩
          · cases hyb
        · cases hyb
      · rename_i kk hcond
        refine ht Fx σ2 ρ1 false kk efx hs2 hcond Fx Hx (.refl _) sx.fh _ fun F3 H3 s3 => iteF ?_
        have h3D : H3 D = some (.dK kvs) := s3.hh.get hxD
        have l3 : F3 D = none := s3.lse lx (by rw [hxD]; exact fun z => nomatch z)
        exact ⟨by omega, F3, kvs, acc, (st.trans sx).trans s3, fa.trans (sx.ff.trans s3.ff), h3D, l3, hkk, hv.mono (sx.ff.trans s3.ff), by omega, hyb⟩
      · cases hyb
  · have e : i = ds.length := by omega
    subst e
    rw [List.drop_length] at hyb
    cases hyb
    refine .inl ⟨wk.stop H' (fa.trans st.fh), q _ F' H' [D] st (.dic hD' hF' hkk (owns_zero hv) (by simp) (by omega)) fun a ha => ?_⟩
    have e : a = D := by simpa using ha
    rw [e]; exact hDH
end

/-! ### locks -/
section
variable {K : PySem.W.Frag} {F F' : Hp} {p : Addr} {od : Obj} {kvs : List (Key × V)}
/-- G is F but at p, where the dict is locked in the one of them -/
structure Lkd (p : Addr) (od : Obj) (kvs : List (Key × V)) (F G : Hp) : Prop where
  free : F p = some (.dK kvs)
  lock : G p = some (.frz od (.dK kvs))
  same : ∀ a, a ≠ p → G a = F a
theorem Lkd.of (h : F p = some (.dK kvs)) : Lkd p od kvs F (upd F p (.frz od (.dK kvs))) := ⟨h, upd_same, fun a ha => upd_ne ha⟩
theorem Lkd.un (h : F p = some (.frz od (.dK kvs))) : Lkd p od kvs (upd F p (.dK kvs)) F := ⟨upd_same, h, fun a ha => (upd_ne ha).symm⟩
variable {G : Hp}
theorem Lkd.rd (l : Lkd p od kvs F G) {a : Addr} {u : HO} (h : Rd F a u) : Rd G a u := by
  by_cases z : a = p
  · subst z
    rcases h with h | ⟨o, h⟩
    · rw [l.free] at h; cases h; exact .inr ⟨od, l.lock⟩
    · rw [l.free] at h; cases h
  · rcases h with h | ⟨o, h⟩
    · exact .inl ((l.same a z).trans h)
    · exact .inr ⟨o, (l.same a z).trans h⟩
theorem Lkd.rdU (l : Lkd p od kvs F G) {a : Addr} {u : HO} (h : Rd G a u) (hu : ∀ o v, u ≠ .frz o v) : Rd F a u := by
  by_cases z : a = p
  · subst z
    rcases h with h | ⟨o, h⟩
    · rw [l.lock] at h; cases h; exact absurd rfl (hu _ _)
    · rw [l.lock] at h; cases h; exact .inl l.free
  · rcases h with h | ⟨o, h⟩
    · exact .inl ((l.same a z).symm.trans h)
    · exact .inr ⟨o, (l.same a z).symm.trans h⟩
theorem Lkd.plain (l : Lkd p od kvs F G) {a : Addr} {u : HO} (h : F a = some u) (hu : ∀ ks, u ≠ .dK ks) : G a = some u := by
  by_cases z : a = p
  · subst z; rw [l.free] at h; cases h; exact absurd rfl (hu _)
  · exact (l.same a z).trans h
theorem Lkd.plainU (l : Lkd p od kvs F G) {a : Addr} {u : HO} (h : G a = some u) (hu : ∀ o v, u ≠ .frz o v) : F a = some u := by
  by_cases z : a = p
  · subst z; rw [l.lock] at h; cases h; exact absurd rfl (hu _ _)
  · exact (l.same a z).symm.trans h
mutual
theorem Lkd.dat (l : Lkd p od kvs F G) : ∀ {v : V} {d : D}, Dat K F v d → Dat K G v d
  | _, _, .non => .non
  | _, _, .bl b => .bl b
  | _, _, .int i => .int i
  | _, _, .str x => .str x
  | _, _, .lst h1 h2 h3 => .lst (l.plain h1 fun _ z => nomatch z) (Lkd.dats l h2) h3
  | _, _, .tup h1 h2 h3 => .tup (l.plain h1 fun _ z => nomatch z) (Lkd.dats l h2) h3
  | _, _, .rot (.inl h1) h2 h3 => .rot (.inl (l.rd h1)) (Lkd.dats l h2) h3
  | _, _, .rot (.inr h1) h2 h3 => .rot (.inr h1) (Lkd.dats l h2) h3
  | _, _, .rol (.inl h1) h2 => .rol (.inl (l.rd h1)) h2
  | _, _, .rol (.inr h1) h2 => .rol (.inr h1) h2
  | _, _, .dic h1 h2 h3 h4 => .dic (l.rd h1) h2 (Lkd.dats l h3) h4
  | _, _, .dicT h1 h2 h3 h4 => .dicT (l.plain h1 fun _ z => nomatch z) h2 (Lkd.dats l h3) h4
  | _, _, .ins h1 h2 h3 h4 h5 => .ins (l.plain h1 fun _ z => nomatch z) (l.plain h2 fun _ z => nomatch z) h3 h4 (Lkd.dats l h5)
theorem Lkd.dats (l : Lkd p od kvs F G) : ∀ {vs : List V} {ds : List D}, Dats K F vs ds → Dats K G vs ds
  | _, _, .nil => .nil
  | _, _, .cons h1 h2 => .cons (Lkd.dat l h1) (Lkd.dats l h2)
end
mutual
theorem Lkd.datU (l : Lkd p od kvs F G) : ∀ {v : V} {d : D}, Dat K G v d → Dat K F v d
  | _, _, .non => .non
  | _, _, .bl b => .bl b
  | _, _, .int i => .int i
  | _, _, .str x => .str x
  | _, _, .lst h1 h2 h3 => .lst (l.plainU h1 fun _ _ z => nomatch z) (Lkd.datsU l h2) h3
  | _, _, .tup h1 h2 h3 => .tup (l.plainU h1 fun _ _ z => nomatch z) (Lkd.datsU l h2) h3
  | _, _, .rot (.inl h1) h2 h3 => .rot (.inl (l.rdU h1 fun _ _ z => nomatch z)) (Lkd.datsU l h2) h3
  | _, _, .rot (.inr h1) h2 h3 => .rot (.inr h1) (Lkd.datsU l h2) h3
  | _, _, .rol (.inl h1) h2 => .rol (.inl (l.rdU h1 fun _ _ z => nomatch z)) h2
  | _, _, .rol (.inr h1) h2 => .rol (.inr h1) h2
  | _, _, .dic h1 h2 h3 h4 => .dic (l.rdU h1 fun _ _ z => nomatch z) h2 (Lkd.datsU l h3) h4
  | _, _, .dicT h1 h2 h3 h4 => .dicT (l.plainU h1 fun _ _ z => nomatch z) h2 (Lkd.datsU l h3) h4
  | _, _, .ins h1 h2 h3 h4 h5 => .ins (l.plainU h1 fun _ _ z => nomatch z) (l.plainU h2 fun _ _ z => nomatch z) h3 h4 (Lkd.datsU l h5)
theorem Lkd.datsU (l : Lkd p od kvs F G) : ∀ {vs : List V} {ds : List D}, Dats K G vs ds → Dats K F vs ds
  | _, _, .nil => .nil
  | _, _, .cons h1 h2 => .cons (Lkd.datU l h1) (Lkd.datsU l h2)
end
mutual
theorem Own.unlock {H HG : Hp} (l : Lkd p od kvs F G) : ∀ {k : Nat} {v : V} {d : D} {fp : List Addr}, Own K G HG k v d fp → (∀ a ∈ fp, a ≠ p ∧ H a = HG a) → Own K F H k v d fp
  | _, _, _, _, .frz h, _ => .frz (l.datU h)
  | _, _, _, _, .sc i h, _ => .sc i (l.datU h)
  | _, _, _, _, .lst h1 h2 h3 h4 h5, q => .lst ((q _ List.mem_cons_self).2.trans h1) ((l.same _ (q _ List.mem_cons_self).1).symm.trans h2) (Owns.unlock l h3 fun a h => q a (List.mem_cons_of_mem _ h)) h4 h5
  | _, _, _, _, .dic h1 h2 e h3 h4 h5, q => .dic ((q _ List.mem_cons_self).2.trans h1) ((l.same _ (q _ List.mem_cons_self).1).symm.trans h2) e (Owns.unlock l h3 fun a h => q a (List.mem_cons_of_mem _ h)) h4 h5
  | _, _, _, _, .dicT h1 h2 e h3 h4 h5, q => .dicT ((q _ List.mem_cons_self).2.trans h1) ((l.same _ (q _ List.mem_cons_self).1).symm.trans h2) e (Owns.unlock l h3 fun a h => q a (List.mem_cons_of_mem _ h)) h4 h5
  | _, _, _, _, .ins h1 h2 h3 h4 e1 e2 h5 h6 h7, q => .ins ((q _ List.mem_cons_self).2.trans h1) ((l.same _ (q _ List.mem_cons_self).1).symm.trans h2) ((q _ (List.mem_cons_of_mem _ List.mem_cons_self)).2.trans h3) ((l.same _ (q _ (List.mem_cons_of_mem _ List.mem_cons_self)).1).symm.trans h4) e1 e2 (Owns.unlock l h5 fun a h => q a (List.mem_cons_of_mem _ (List.mem_cons_of_mem _ h))) h6 h7
theorem Owns.unlock {H HG : Hp} (l : Lkd p od kvs F G) : ∀ {k : Nat} {vs : List V} {ds : List D} {fp : List Addr}, Owns K G HG k vs ds fp → (∀ a ∈ fp, a ≠ p ∧ H a = HG a) → Owns K F H k vs ds fp
  | _, _, _, _, .nil, _ => .nil
  | _, _, _, _, .cons h1 h2 h3, q => .cons (Own.unlock l h1 fun a h => q a (List.mem_append_left _ h)) (Owns.unlock l h2 fun a h => q a (List.mem_append_right _ h)) h3
end
theorem Lkd.ex (l : Lkd p od kvs F G) {F2 G2 : Hp} (l2 : Lkd p od kvs F2 G2) (e : Ex F F2) : Ex G G2 := ⟨fun a o h n => by
  by_cases z : a = p
  · subst z; rw [l.lock] at h; rw [l2.lock]; exact h
  · rw [l.same a z] at h; rw [l2.same a z]; exact e.get h n, fun a ps h => by
  by_cases z : a = p
  · subst z; rw [l.lock] at h; cases h
  · rw [l.same a z] at h; rw [l2.same a z]; exact e.tb a ps h⟩
theorem Lkd.exU (l : Lkd p od kvs F G) {F2 G2 : Hp} (l2 : Lkd p od kvs F2 G2) (e : Ex G G2) : Ex F F2 := ⟨fun a o h n => by
  by_cases z : a = p
  · subst z; rw [l.free] at h; rw [l2.free]; exact h
  · rw [← l.same a z] at h; rw [← l2.same a z]; exact e.get h n, fun a ps h => by
  by_cases z : a = p
  · subst z; rw [l.free] at h; cases h
  · rw [← l.same a z] at h; rw [← l2.same a z]; exact e.tb a ps h⟩
theorem Lkd.fh (l : Lkd p od kvs F G) {F2 G2 : Hp} (l2 : Lkd p od kvs F2 G2) (e : Fh F F2) : Fh G G2 := ⟨l.ex l2 e, tabs_same e.tabs l2.free rfl l2.same⟩
theorem Lkd.fhU (l : Lkd p od kvs F G) {F2 G2 : Hp} (l2 : Lkd p od kvs F2 G2) (e : Fh G G2) : Fh F F2 := ⟨l.exU l2 e, tabs_same e.tabs l2.lock rfl fun a z => (l2.same a z).symm⟩
/-- e (or whatever W reads) gives d -/
def EvDW (K : PySem.W.Frag) (W : TE) (σ : L2.St) (F : Hp) (k : Nat) (d : D) : Prop :=
  ∀ F1 H, Ex F F1 → Fh F1 H → ∀ Q : VK, (∀ v F2 H2 fp, Stp F1 H F2 H2 → Own K F2 H2 k v d fp → (∀ a ∈ fp, H a = none) → Q v H2) → W σ H Q
/-- W may be read while a dict is locked -/
def Lockable (W : TE) : Prop := ∀ σ (H : Hp) (Q : VK) p kvs, H p = some (.dK kvs) → (∀ od, W σ (upd H p (.frz od (.dK kvs))) fun v H' => H' p = some (.frz od (.dK kvs)) ∧ Q v (upd H' p (.dK kvs))) → W σ H Q
theorem we_lock {X : Cx} {e : Expr} : Lockable (WE X e) := fun σ H Q p kvs h q => w_of (pe_lock pe_W) ⟨p, .dK kvs, h, True.intro, q⟩
/-- evaluation while the dict at p is locked -/
theorem ev_lock {W : TE} {σ : L2.St} {k : Nat} {d : D} (lk : Lockable W) (hp : F p = some (.dK kvs)) (h : ∀ od, EvDW K W σ (upd F p (.frz od (.dK kvs))) k d) : EvDW K W σ F k d := fun F1 H e1 e2 Q q => by
  have h1 : F1 p = some (.dK kvs) := e1.get hp
  have h2 : H p = some (.dK kvs) := e2.get h1
  refine lk σ H Q p kvs h2 fun od => ?_
  have l0 : Lkd p od kvs F (upd F p (.frz od (.dK kvs))) := .of hp
  have l1 : Lkd p od kvs F1 (upd F1 p (.frz od (.dK kvs))) := .of h1
  have l2 : Lkd p od kvs H (upd H p (.frz od (.dK kvs))) := .of h2
  refine h od _ _ (l0.ex l1 e1) (l1.fh l2 e2) _ fun v F2 H2 fp st o fr => ?_
  have f2 : F2 p = some (.frz od (.dK kvs)) := st.ff.get upd_same
  have g2 : H2 p = some (.frz od (.dK kvs)) := st.hh.get upd_same
  have m1 : Lkd p od kvs (upd F2 p (.dK kvs)) F2 := .un f2
  have m2 : Lkd p od kvs (upd H2 p (.dK kvs)) H2 := .un g2
  have nefp : ∀ a ∈ fp, a ≠ p := fun a ha z => by have := fr a ha; rw [z, upd_same] at this; cases this
  refine ⟨g2, q v (upd F2 p (.dK kvs)) _ fp ⟨l1.exU m1 st.ff, l2.exU m2 st.hh, m1.fhU m2 st.fh, fun a ha => ?_⟩ (o.unlock m1 fun a ha => ⟨nefp a ha, upd_ne (nefp a ha)⟩) fun a ha => ?_⟩
  · by_cases z : a = p
    · subst z; exact .inl (by rw [h1]; exact fun z => nomatch z)
    · rw [upd_ne z] at ha
      rcases st.nw a ha with w | w
      · rw [upd_ne z] at w; exact .inl w
      · rw [upd_ne z] at w; exact .inr w
  · have := fr a ha
    rw [upd_ne (nefp a ha)] at this
    exact this
end
section
variable {X : Cx} {tg e : Expr} {σ : L2.St} {F : Hp} {p : Addr} {od : Obj} {kvs : List (Key × V)} {ds : List (Key × D)}
/-- the keys of a locked dict -/
theorem ei_keys (h : ∀ F1 H, Ex F F1 → Fh F1 H → ∀ Q : VK, Q (.ref p) H → WE X e σ H Q) (hp : F p = some (.frz od (.dK kvs))) (hk : kvs.map (·.1) = ds.map (·.1)) (hl : ds.length ≤ cap) : EvI X tg e σ F (ds.map fun kv => dOfKey kv.1) := fun F1 H e1 e2 R q => by
  have hp1 : F1 p = some (.frz od (.dK kvs)) := e1.get hp
  have hlen : kvs.length = ds.length := by simpa using congrArg List.length hk
  refine wi_of (pi_keys pe_W) (h F1 H e1 e2 _ ⟨p, od, rfl, .inl ⟨kvs, e2.get hp1, q _ F1 H (.refl e2) ⟨by rw [List.length_map]; exact hl, fun i H fh hi => ⟨fh.get hp1, ?_⟩, fun H fh => ⟨fh.get hp1, ?_⟩, fun i H x H' d F' ef fh hd hy => ?_⟩⟩⟩)
  · rw [List.length_map] at hi; omega
  · rw [List.length_map]; omega
  · obtain ⟨rfl, k, v, hkv, rfl⟩ := hy
    refine ⟨F', .refl fh, ?_⟩
    have dd : Dats X.K F' (kvs.map fun kv => kV kv.1) (ds.map fun kv => dOfKey kv.1) := keys_dats hk
    obtain ⟨u, hu, du⟩ := dd.get hd
    rw [List.getElem?_map, hkv] at hu
    cases hu
    exact du
end
end PV

set_option Elab.async false
set_option linter.all false
set_option maxRecDepth 100000
set_option maxHeartbeats 1000000
/-! PV, part J: {tuple: value}; stores. -/
namespace PV
open PySem PySem.Spec PyProof.Rows L2
variable [Tabl]
section
variable {X : Cx} {kx vx : Expr} {tk tv : TE} {pos : Pos}
theorem pe_dpairT (hu : X.A.units + 64 < cLine) (hk : PE X kx tk) (hv : PE X vx tv) : PE X (.Dict [some kx] [vx] pos) (fun σ H Q => ∀ p, H p = none → tk σ (upd H p (.dT [])) fun x H1 => tv σ H1 fun y H2 =>
    H2 p = some (.dT []) ∧ ∃ ks b, x = .ref b ∧ H2 b = some (.tup (ks.map kV)) ∧ Q (.ref p) (upd H2 p (.dT [(ks, y)]))) := by
  refine ⟨fun pins s σ H Q I q => ?_⟩
  have hn := I.hok.fresh (Nat.le_refl s.heap.objs.size)
  have I1 := I.laid (a := s.heap.objs.size) (o := .dT []) (h' := s.heap.push { cls := .type "dict", data := .dict #[] }) (t' := s.toks) (fun _ _ q => Heap.get?_push_of_some _ q) (Nat.le_refl _) (dt_empty s.heap I.big)
  have hsh : (evalEachOpt [some kx] X.env).zip ((evalEach [vx] X.env).map fun v => (do let x ← v; standAt pos; pure x : Sem Value)) = ([(eval kx X.env, (do let x ← eval vx X.env; standAt pos; pure x : Sem Value))] : List (Sem Value × Sem Value)).map fun p => (some p.1, p.2) := by
    simp only [evalEachOpt, evalOpt, evalEach, List.map_cons, List.map_nil, List.zip_cons_cons, List.zip_nil_right]
  rw [arm_eval_Dict, hsh]
  rw [dictDisplay_pairs _ (by simp) (by simp)]
  refine wpAny_bind (wpAny_standAt (wpAny_bind (wpAny_subDictH (knd := tupleKind (mixKind X.prog X.w)) (show X.A.units < cLine by omega) (by simp) ?_)))
  refine evalPairs_cons (thn (hk.run pins _ σ _ _ I1 (q _ hn)) fun u s1 ⟨x, H1, I2, rx, q1⟩ => ?_)
  refine wpAny_bind (thn (hv.run pins s1 σ _ _ I2 q1) fun w s2 ⟨y, H2, I3, ry, hp, ks, b, ex, hb, q2⟩ => wpAny_bind (wpAny_standAt (wpAny_pure (evalPairs_nil ?_))))
  subst ex
  obtain rfl : u = Value.ref b := rx
  obtain ⟨z, hd, xs0, r0, dd⟩ := dt_of I3.hok hp
  cases r0
  refine ⟨[(ks, b, w)], ⟨rfl, rfl, key_of I3.hok hb, trivial⟩, dd, fun h' tk dd' hs => wpAny_pure ⟨.ref s.heap.objs.size, _, ?_, rfl, q2⟩⟩
  obtain ⟨o, es, ep, ho, h2, h3, h4, _, h5⟩ := dd'
  have hne : b ≠ s.heap.objs.size := ne_of hb hp (fun z => nomatch z)
  exact d_write I3 (by rw [hp]; exact True.intro) hs ⟨o, ho⟩ ⟨Nat.le_of_lt (small1000 (show 1 ≤ 1000 by decide)), hd, [(ks, b, w)], .cons ⟨rfl, by rw [upd_ne hne]; exact hb, ry⟩ .nil, o, es, ep, ho, h2, h3, h4, h5⟩
/-- a dict that stood empty while its pair was made, with the pair -/
theorem stp_pair {F1 H F2 H2 : Hp} {p : Addr} {o0 o : HO} (hp : H p = none) (st : Stp F1 (upd H p o0) F2 H2) (lp : F2 p = none) (h0 : H2 p = some o0) (n : isTE o0 = false) : Stp F1 H F2 (upd H2 p o) :=
  ⟨st.ff, ((Ex.new hp).trans st.hh).updR hp, ⟨st.fh.toEx.updR lp, tabs_upd st.fh.tabs h0 n⟩, fun a ha => by
    rcases st.nw a ha with z | z
    · exact .inl z
    · by_cases ne : a = p
      · subst ne; exact absurd lp ha
      · rw [upd_ne ne] at z; exact .inr z⟩
theorem ev_dpair {σ : L2.St} {F : Hp} {ks : List D} {k : List Key} {d : D} (hu : X.A.units + 64 < cLine) (hk : EvZ X kx σ F (.tup ks)) (hv : EvZ X vx σ F d) (h : keysOf ks = some k) : EvD X (.Dict [some kx] [vx] pos) σ F 1 (.dicT [(k, d)]) :=
  fun F1 H e1 e2 Q q => w_of (pe_dpairT hu pe_W pe_W) fun p hp => ev2 hk hv e1 (e2.grow (new_full hp)) fun v u F2 H2 st d1 d2 => by
    have hpd : H2 p = some (.dT []) := st.hh.get upd_same
    have lp : F2 p = none := st.lse (e2.free hp) (by rw [upd_same]; exact fun z => nomatch z)
    cases d1 with
    | tup h1 h2 h3 =>
      have ek := keys_dat h2 h
      subst ek
      refine ⟨hpd, k, _, rfl, st.fh.get h1, q _ F2 _ [p] (stp_pair hp st lp hpd rfl) (.dicT upd_same lp rfl (owns_zero (.one d2)) (by simp) (show 1 ≤ cap by decide)) fun a ha => ?_⟩
      have e : a = p := by simpa using ha
      rw [e]; exact hp
theorem ev_dstr {σ : L2.St} {F : Hp} {x : Str} {d : D} (hk : EvZ X kx σ F (.str x)) (hv : EvZ X vx σ F d) : EvD X (.Dict [some kx] [vx] pos) σ F 1 (.dic [(.inr x, d)]) :=
  fun F1 H e1 e2 Q q => w_of (pe_disp (pps_cons pe_W pe_W pps_nil) rfl rfl (fun z => by cases z) (show 1 ≤ 15 by decide)) fun p hp => ev2 hk hv e1 (e2.grow (new_full hp)) fun v u F2 H2 st d1 d2 => by
    have hpd : H2 p = some (.dK []) := st.hh.get upd_same
    have lp : F2 p = none := st.lse (e2.free hp) (by rw [upd_same]; exact fun z => nomatch z)
    cases d1
    refine ⟨hpd, [(.inr x, u)], rfl, (show 1 ≤ 15 by decide), q _ F2 _ [p] (stp_pair hp st lp hpd rfl) (.dic (kvs := [(.inr x, u)]) upd_same lp rfl (owns_zero (.one d2)) (by simp) (show 1 ≤ cap by decide)) fun a ha => ?_⟩
    have e : a = p := by simpa using ha
    rw [e]; exact hp
end
end PV

set_option Elab.async false
set_option linter.all false
set_option maxRecDepth 100000
set_option maxHeartbeats 1000000
/-! PV, part Ja: order, the greatest and the least, fields, own classes. -/
namespace PV
open PySem PySem.Spec PyProof.Rows L2
variable [Tabl]
/-! ### texts in order -/
theorem leS_iff {x y : Str} : leS x y = true ↔ x.cps.toList ≤ y.cps.toList := by
  unfold leS
  rw [ltCps_eq, Bool.not_eq_true', decide_eq_false_iff_not, List.not_lt]
theorem leS_total (x y : Str) : leS x y = true ∨ leS y x = true := by
  rw [leS_iff, leS_iff]; exact List.le_total _ _
theorem leS_trans {x y z : Str} (h : leS x y = true) (g : leS y z = true) : leS x z = true := by
  rw [leS_iff] at *; exact List.le_trans h g
theorem leS_anti {x y : Str} (h : leS x y = true) (g : leS y x = true) : x = y := by
  rw [leS_iff] at *
  have e := List.le_antisymm h g
  cases x with | mk a => cases y with | mk b => cases a; cases b; cases e; rfl
theorem insS_perm (x : Str) : ∀ l : List Str, (insS x l).Perm (x :: l)
  | [] => .refl _
  | y :: r => by
    unfold insS
    split
    · exact .refl _
    · exact ((insS_perm x r).cons y).trans (.swap _ _ _)
theorem sortS_perm : ∀ l : List Str, (sortS l).Perm l
  | [] => .refl _
  | x :: r => (insS_perm x _).trans ((sortS_perm r).cons x)
theorem insS_pw (x : Str) : ∀ l : List Str, l.Pairwise (fun a b => leS a b = true) → (insS x l).Pairwise fun a b => leS a b = true
  | [], _ => List.pairwise_singleton _ _
  | y :: r, h => by
    unfold insS
    rw [List.pairwise_cons] at h
    split
    · rename_i q
      refine List.pairwise_cons.mpr ⟨fun z hz => ?_, List.pairwise_cons.mpr h⟩
      rcases List.mem_cons.mp hz with rfl | hz
      · exact q
      · exact leS_trans q (h.1 z hz)
    · rename_i q
      refine List.pairwise_cons.mpr ⟨fun z hz => ?_, insS_pw x r h.2⟩
      rcases List.mem_cons.mp ((insS_perm x r).mem_iff.mp hz) with rfl | hz
      · exact (leS_total _ _).resolve_left q
      · exact h.1 z hz
theorem sortS_pw : ∀ l : List Str, (sortS l).Pairwise fun a b => leS a b = true
  | [] => .nil
  | x :: r => insS_pw x _ (sortS_pw r)
theorem rising_pw : ∀ (l : List Str) (p : Str), risingS p l = true → (p :: l).Pairwise fun a b => leS a b = true
  | [], p, _ => List.pairwise_singleton _ _
  | x :: r, p, h => by
    unfold risingS at h
    rw [Bool.and_eq_true] at h
    have ih := rising_pw r x h.2
    have hp : leS p x = true := h.1
    refine List.pairwise_cons.mpr ⟨fun z hz => ?_, ih⟩
    rcases List.mem_cons.mp hz with rfl | hz
    · exact hp
    · exact leS_trans hp ((List.pairwise_cons.mp ih).1 z hz)
theorem sorted_is {xs ys : List Str} (hp : ys.Perm xs) (hs : sortedS ys = true) : ys = sortS xs := by
  have pw : ys.Pairwise fun a b => leS a b = true := by
    cases ys with
    | nil => exact .nil
    | cons y r => exact rising_pw r y hs
  exact List.Perm.eq_of_pairwise (fun a b _ _ h g => leS_anti h g) pw (sortS_pw xs) (hp.trans (sortS_perm xs).symm)
theorem sortS_eq {xs ys : List Str} : sortS xs = sortS ys ↔ xs.Perm ys :=
  ⟨fun h => (sortS_perm xs).symm.trans (by rw [h]; exact sortS_perm ys), fun h => List.Perm.eq_of_pairwise (fun a b _ _ h g => leS_anti h g) (sortS_pw xs) (sortS_pw ys) ((sortS_perm xs).trans (h.trans (sortS_perm ys).symm))⟩
theorem sortS_len (xs : List Str) : (sortS xs).length = xs.length := (sortS_perm xs).length_eq
/-! ### the greatest, the least -/
theorem foldl_max : ∀ (r : List Int) (x : Int), (r.foldl max x = x ∨ r.foldl max x ∈ r) ∧ x ≤ r.foldl max x ∧ ∀ y ∈ r, y ≤ r.foldl max x
  | [], x => ⟨.inl rfl, Int.le_refl _, fun y h => by cases h⟩
  | z :: r, x => by
    obtain ⟨h1, h2, h3⟩ := foldl_max r (max x z)
    rw [List.foldl_cons]
    refine ⟨?_, by omega, fun y hy => ?_⟩
    · rcases h1 with h1 | h1
      · rw [h1]
        rcases Int.le_total x z with q | q
        · exact .inr (by rw [Int.max_eq_right q]; exact List.mem_cons_self)
        · exact .inl (Int.max_eq_left q)
      · exact .inr (List.mem_cons_of_mem _ h1)
    · rcases List.mem_cons.mp hy with rfl | hy
      · omega
      · exact h3 y hy
theorem foldl_min : ∀ (r : List Int) (x : Int), (r.foldl min x = x ∨ r.foldl min x ∈ r) ∧ r.foldl min x ≤ x ∧ ∀ y ∈ r, r.foldl min x ≤ y
  | [], x => ⟨.inl rfl, Int.le_refl _, fun y h => by cases h⟩
  | z :: r, x => by
    obtain ⟨h1, h2, h3⟩ := foldl_min r (min x z)
    rw [List.foldl_cons]
    refine ⟨?_, by omega, fun y hy => ?_⟩
    · rcases h1 with h1 | h1
      · rw [h1]
        rcases Int.le_total x z with q | q
        · exact .inl (Int.min_eq_left q)
        · exact .inr (by rw [Int.min_eq_right q]; exact List.mem_cons_self)
      · exact .inr (List.mem_cons_of_mem _ h1)
    · rcases List.mem_cons.mp hy with rfl | hy
      · omega
      · exact h3 y hy
theorem maxI_spec {ns : List Int} {m : Int} (h : maxI ns = some m) : m ∈ ns ∧ ∀ y ∈ ns, y ≤ m := by
  cases ns with
  | nil => cases h
  | cons x r =>
    cases h
    obtain ⟨h1, h2, h3⟩ := foldl_max r x
    refine ⟨?_, fun y hy => ?_⟩
    · rcases h1 with h1 | h1
      · rw [h1]; exact List.mem_cons_self
      · exact List.mem_cons_of_mem _ h1
    · rcases List.mem_cons.mp hy with rfl | hy
      · exact h2
      · exact h3 y hy
theorem minI_spec {ns : List Int} {m : Int} (h : minI ns = some m) : m ∈ ns ∧ ∀ y ∈ ns, m ≤ y := by
  cases ns with
  | nil => cases h
  | cons x r =>
    cases h
    obtain ⟨h1, h2, h3⟩ := foldl_min r x
    refine ⟨?_, fun y hy => ?_⟩
    · rcases h1 with h1 | h1
      · rw [h1]; exact List.mem_cons_self
      · exact List.mem_cons_of_mem _ h1
    · rcases List.mem_cons.mp hy with rfl | hy
      · exact h2
      · exact h3 y hy
section
variable {X : Cx} {e a b c : Expr} {σ : L2.St} {F F1 H : Hp} {d x y z : D} {ds : List D} {k : Nat} {pos p p2 : Pos}
theorem strs_dats {K : PySem.W.Frag} : ∀ {vs : List V} {ds : List D} {bs : List Str}, Dats K F vs ds → strsD ds = some bs → vs = bs.map V.str
  | _, _, _, .nil, h => by cases h; rfl
  | _, _, _, .cons h1 h2, h => by
    cases h1 with
    | str b =>
      obtain ⟨bs', hb, rfl⟩ := Option.map_eq_some_iff.mp (show (strsD _).map (b :: ·) = some _ from h)
      rw [strs_dats h2 hb]; rfl
    | _ => cases h
theorem keyStrs_is {α β : Type} : ∀ {kvs : List (Key × α)} {ds : List (Key × β)} {xs : List Str}, kvs.map (·.1) = ds.map (·.1) → keyStrs ds = some xs → kvs.map (·.1) = xs.map Sum.inr
  | [], [], _, _, h => by cases h; rfl
  | [], _ :: _, _, e, _ => by simp at e
  | _ :: _, [], _, e, _ => by simp at e
  | (k, v) :: r, (j, w) :: s, xs, e, h => by
    simp only [List.map_cons, List.cons.injEq] at e
    obtain ⟨rfl, e2⟩ := e
    cases k with
    | inl i => cases h
    | inr t =>
      obtain ⟨ys, hy, rfl⟩ := Option.map_eq_some_iff.mp (show (keyStrs s).map (t :: ·) = some xs from h)
      rw [List.map_cons, List.map_cons, keyStrs_is e2 hy]
theorem dats_strs {K : PySem.W.Frag} : ∀ xs : List Str, Dats K F (xs.map V.str) (xs.map D.str)
  | [] => .nil
  | x :: r => .cons (.str x) (dats_strs r)
/-- max, min, sorted, dict of one thing -/
theorem max_ok {v : V} {ns : List Int} {m : Int} {Q : VK} (hc : X.calm = true) (fh : Ex F H) (hd : Dat X.K F v (.lst ds)) (hi : intsD ds = some ns) (h : maxI ns = some m) (q : Q (.int m) H) : WC X (.builtin "max") [v] H Q := by
  cases hd with
  | lst h1 h2 h3 =>
    obtain ⟨m1, m2⟩ := maxI_spec h
    refine wc_of (cr_max hc) ⟨_, ns, rfl, by rw [← ints_dats h2 hi]; exact .of (fh.get h1), List.length_pos_of_mem m1, fun m' a1 a2 => ?_⟩
    have : m' = m := by have := m2 m' a1; have := a2 m m1; omega
    rw [this]; exact q
theorem min_ok {v : V} {ns : List Int} {m : Int} {Q : VK} (hc : X.calm = true) (fh : Ex F H) (hd : Dat X.K F v (.lst ds)) (hi : intsD ds = some ns) (h : minI ns = some m) (q : Q (.int m) H) : WC X (.builtin "min") [v] H Q := by
  cases hd with
  | lst h1 h2 h3 =>
    obtain ⟨m1, m2⟩ := minI_spec h
    refine wc_of (cr_min hc) ⟨_, ns, rfl, by rw [← ints_dats h2 hi]; exact .of (fh.get h1), List.length_pos_of_mem m1, fun m' a1 a2 => ?_⟩
    have : m' = m := by have := m2 m' a1; have := a2 m m1; omega
    rw [this]; exact q
theorem sorted_ok {v : V} {F2 H2 : Hp} {Q : VK} (hc : X.calm = true) (st : Stp F1 H F2 H2) (hd : Dat X.K F2 v x) (h : bltD .sorted x = some (k, d))
    (q : ∀ v F2 H2 fp, Stp F1 H F2 H2 → Own X.K F2 H2 k v d fp → (∀ a ∈ fp, H a = none) → Q v H2) : WC X (.builtin "sorted") [v] H2 Q := by
  cases hd with
  | lst h1 h2 h3 =>
    simp only [bltD] at h
    split at h
    · rename_i xs hx
      obtain ⟨hl, e⟩ := if_some h
      cases e
      refine wc_of cr_sortedS ⟨_, xs, rfl, by rw [← strs_dats h2 hx]; exact .of (st.fh.get h1), hl, fun ys p hp hs hn => ?_⟩
      rw [sorted_is hp hs]
      exact give_lst q st hn (dats_strs _) (by rw [List.length_map, sortS_len]; exact Nat.le_trans (Nat.le_of_lt hl) (by decide))
    · cases h
  | dic h1 h2 h3 h4 =>
    simp only [bltD] at h
    split at h
    · rename_i xs hx
      obtain ⟨hl, e⟩ := if_some h
      cases e
      refine wc_of (call_sortedD hc) ⟨_, _, xs, rfl, ex_rd st.fh h1, keyStrs_is h2 hx, hl, fun ys p hp hs hn => ?_⟩
      rw [sorted_is hp hs]
      exact give_lst q st hn (dats_strs _) (by rw [List.length_map, sortS_len]; exact Nat.le_trans (Nat.le_of_lt hl) (by decide))
    · cases h
  | _ => cases h
theorem dict_ok {v : V} {F2 H2 : Hp} {kvs : List (Key × D)} {Q : VK} (st : Stp F1 H F2 H2) (hd : Dat X.K F2 v (.dic kvs))
    (q : ∀ v F2 H2 fp, Stp F1 H F2 H2 → Own X.K F2 H2 1 v (.dic kvs) fp → (∀ a ∈ fp, H a = none) → Q v H2) : WC X (.type "dict") [v] H2 Q := by
  cases hd with
  | dic h1 h2 h3 h4 => exact wc_of call_dictD ⟨_, _, rfl, ex_rd st.fh h1, fun p hp => give_dic q st hp h2 h3 h4⟩
theorem ev_mx2 {i j : Int} (hc : X.calm = true) (hg : Gl X "max") (hm : X.mg "max" = none) (na : Pl X a) (nb : Pl X b) (ha : EvZ X a σ F (.int i)) (hb : EvZ X b σ F (.int j)) : EvD X (.Call (.Name "max" p) [a, b] [] pos) σ F 0 (.int (if j > i then j else i)) :=
  fun F1 H e1 e2 Q q => w_of (pe_callB (call_max2 hc) hg hm (show bootBuiltins "max" = some (.builtin "max") by decide +kernel) (pa_cons pe_W (pa_cons pe_W pa_nil (nb _)) (na _)) (by decide) (by decide) (na _) (by rw [nb []]; rfl)) (ev2 ha hb e1 e2 fun v u F2 H2 st d1 d2 => by
    cases d1; cases d2
    exact ⟨i, j, rfl, give q st (.int _)⟩)
theorem ev_rev {kk : Nat} {p1 p3 : Pos} (h : EvZ X e σ F (.lst ds)) : EvD X (.Subscript e (.Slice none none (some (.UnaryOp .USub (.Constant (.int 1) kk p1) p2)) p3) pos) σ F 1 (.lst ds.reverse) :=
  fun F1 H e1 e2 Q q => w_of (pe_revL pe_W) (h F1 H e1 e2 _ fun v F2 H2 st d1 => by
    cases d1 with
    | lst h1 h2 h3 =>
      refine ⟨_, _, rfl, .of (st.fh.get h1), fun p hp => give_lst q st hp ?_ (by rw [List.length_reverse]; exact h3)⟩
      have rv : ∀ {vs : List V} {ds : List D}, Dats X.K F2 vs ds → Dats X.K F2 vs.reverse ds.reverse := by
        intro vs
        induction vs with
        | nil => intro ds h; cases h; exact .nil
        | cons v r ih => intro ds h; cases h with
          | cons a b => rw [List.reverse_cons, List.reverse_cons]; exact (ih b).app (.one a)
      exact rv h2)
/-- isinstance(x, (list, tuple)) -/
theorem ty_lt (x : D) (hx : isIns x = false) : PySem.W.kitAny X.K (.type (tyName x)) [.type "list", .type "tuple"] = some (isLtD x) := by
  refine kitAny_cons (kit_ty (ty_list x hx)) (fun h1 => kitAny_cons (kit_ty (ty_tuple x hx)) (fun h2 => ?_) fun h2 => ?_) fun h1 => ?_
  · rw [kitAny_nil]
    cases x <;> first | rfl | (cases h1; done) | (cases h2; done)
  · cases x <;> first | rfl | (cases h1; done) | (cases h2; done)
  · cases x <;> first | rfl | (cases h1; done)
theorem ev_isiLT {kk : Nat} {p3 p4 : Pos} (hg : Gl X "isinstance") (hm : X.mg "isinstance" = none) (g1 : Gl X "list") (m1 : X.mg "list" = none) (g2 : Gl X "tuple") (m2 : X.mg "tuple" = none) (na : Pl X a) (ha : EvZ X a σ F x) (hx : isIns x = false) :
    EvD X (.Call (.Name "isinstance" p) [a, .Tuple [.Name "list" p2, .Name "tuple" p3] kk p4] [] pos) σ F 0 (.bl (isLtD x)) :=
  fun F1 H e1 e2 Q q => w_of (pe_callB call_isiT hg hm (show bootBuiltins "isinstance" = some (.builtin "isinstance") by decide +kernel) (pa_cons pe_W (pa_cons (pe_tup (pa_cons (pe_bltn g1 m1 (show bootBuiltins "list" = some (.type "list") by decide +kernel) (v := .ty "list") rfl (by decide) (by decide)) (pa_cons (pe_bltn g2 m2 (show bootBuiltins "tuple" = some (.type "tuple") by decide +kernel) (v := .ty "tuple") rfl (by decide) (by decide)) pa_nil rfl) rfl)) pa_nil rfl) (na _)) (by decide) (by decide) (na _) rfl) (ha F1 H e1 e2 _ fun v F2 H2 st d1 =>
    ⟨show 2 ≤ sizeLine by decide, fun t ht => ⟨v, t, [.ty "list", .ty "tuple"], _, _, _, rfl, upd_same, .cons (.ty "list") (.cons (.ty "tuple") .nil), dat_ty ((st.fh.toEx).updR (st.fh.free ht)) d1 hx, ty_lt x hx, give q (st.trans (.loose st.fh ht)) (.bl _)⟩⟩)
/-! ### fields, own classes -/
theorem lookup_dats {K : PySem.W.Frag} {f : Str} : ∀ {fs : List (Str × V)} {ds : List (Str × D)}, fs.map (·.1) = ds.map (·.1) → Dats K F (fs.map (·.2)) (ds.map (·.2)) → (ds.lookup f = none ∧ fs.lookup f = none) ∨ ∃ d v, ds.lookup f = some d ∧ fs.lookup f = some v ∧ Dat K F v d
  | [], [], _, _ => .inl ⟨rfl, rfl⟩
  | [], _ :: _, e, _ => by simp at e
  | _ :: _, [], e, _ => by simp at e
  | (a, v) :: r, (b, d) :: s, e, h => by
    simp only [List.map_cons, List.cons.injEq] at e
    obtain ⟨rfl, e2⟩ := e
    cases h with
    | cons h1 h2 =>
      rw [List.lookup_cons, List.lookup_cons]
      split
      · exact .inr ⟨d, v, rfl, rfl, h1⟩
      · exact lookup_dats e2 h2
/-- what is known of an own class -/
structure ClsK (K : PySem.W.Frag) (C : Addr) : Prop where
  cl : Cls K C
  ha : PySem.W.findIn K (.ref C) "__class__" = some (some (.builtin "object.__class__"))
  hn : PySem.W.specialIn K (.builtin "object.__class__") "__get__" = some (some (.builtin "getset_descriptor.__get__"))
  ht : PySem.W.takesIn K (.builtin "object.__class__") = some true
  hm : PySem.W.mroIn K C (.type "object") = some true
theorem ev_fld {f c : Str} {fs : List (Str × D)} (hb : attributeBase e f X.env (eval e X.env) = eval e X.env) (h : EvZ X e σ F (.ins c fs)) (hl : fs.lookup f = some d)
    (hc : ∀ C, PySem.W.nsIn X.K mainGlobals c = some (some (.ref C)) → Cls X.K C ∧ NoAttr X.K C f) : EvD X (.Attribute e f pos) σ F 0 d :=
  fun F1 H e1 e2 Q q => w_of (pe_fld pe_W hb) (h F1 H e1 e2 _ fun v F2 H2 st d1 => by
    cases d1 with
    | ins h1 h2 h3 h4 h5 =>
      obtain ⟨c1, c2⟩ := hc _ h3
      rcases lookup_dats (f := f) h4 h5 with ⟨z1, z2⟩ | ⟨d', v', z1, z2, dv⟩
      · rw [z1] at hl; cases hl
      · rw [z1] at hl; cases hl
        exact ⟨_, _, _, _, v', rfl, st.fh.get h1, c1, c2, z2, give q st dv⟩)
theorem ev_isC {c n : Str} {fs : List (Str × D)} {CT : Addr} {t : Bool} (hg : Gl X "isinstance") (hm : X.mg "isinstance" = none) (hg2 : Gl X n) (hm2 : X.mg n = some (.ref CT)) (hdb : (n == ("__debug__" : Str)) = false) (na : Pl X a) (ha : EvZ X a σ F (.ins c fs))
    (hc : ∀ C, PySem.W.nsIn X.K mainGlobals c = some (some (.ref C)) → ClsK X.K C ∧ PySem.W.kitOne X.K (.ref C) (.ref CT) = some t) : EvD X (.Call (.Name "isinstance" p) [a, .Name n p2] [] pos) σ F 0 (.bl t) :=
  fun F1 H e1 e2 Q q => w_of (pe_callB call_isi hg hm (show bootBuiltins "isinstance" = some (.builtin "isinstance") by decide +kernel) (pa_cons pe_W (pa_cons (pe_glob hg2 hm2 (v := .ref CT) rfl hdb) pa_nil rfl) (na _)) (by decide) (by decide) (na _) rfl) (ha F1 H e1 e2 _ fun v F2 H2 st d1 => by
    cases d1 with
    | ins h1 h2 h3 h4 h5 =>
      obtain ⟨c1, c2⟩ := hc _ h3
      exact ⟨_, .ref CT, _, _, t, rfl, .own CT, .base (.ins (st.fh.get h1) c1.cl c1.ha c1.hn c1.ht c1.hm), c2, give q st (.bl t)⟩)
/-! ### the signs of a text, a dict's items and values walked -/
theorem ei_str {tg : Expr} {x : Str} (h : EvZ X e σ F (.str x)) (hl : x.length ≤ cap) : EvI X tg e σ F (charsD x) := fun F1 H e1 e2 R q => wi_of (pi_str pe_W) (h F1 H e1 e2 _ fun v F2 H2 st d1 => by
  cases d1
  have hlen : (charsD x).length = x.cps.size := by unfold charsD; rw [List.length_map, Array.length_toList]
  refine ⟨x, rfl, q _ F2 H2 st ⟨by rw [hlen]; exact hl, fun i H fh hi => by rw [hlen] at hi; exact hi, fun H fh => by show x.cps.size ≤ _; rw [hlen]; exact Nat.le_refl _, fun i H y H' d F' ef fh hd hy => ?_⟩⟩
  obtain ⟨rfl, c, hc, rfl⟩ := hy
  unfold charsD at hd
  rw [List.getElem?_map, Array.getElem?_toList, hc] at hd
  cases hd
  exact ⟨F', .refl fh, .str _⟩)
section
variable {tg : Expr} {p : Addr} {od : Obj} {kvs : List (Key × V)} {ds : List (Key × D)} {apos cpos : Pos}
theorem ei_vals (h : ∀ F1 H, Ex F F1 → Fh F1 H → ∀ Q : VK, Q (.ref p) H → WE X e σ H Q) (hb : attributeBase e "values" X.env (eval e X.env) = eval e X.env) (hline : (apos.endLine == cpos.line) = true) (hp : F p = some (.frz od (.dK kvs))) (hk : kvs.map (·.1) = ds.map (·.1)) (hv : Dats X.K F (kvs.map (·.2)) (ds.map (·.2))) (hl : ds.length ≤ cap) :
    EvI X tg (.Call (.Attribute e "values" apos) [] [] cpos) σ F (ds.map (·.2)) := fun F1 H e1 e2 R q => by
  have hp1 : F1 p = some (.frz od (.dK kvs)) := e1.get hp
  have hlen : kvs.length = ds.length := by simpa using congrArg List.length hk
  refine wi_of (pi_values pe_W hb hline) (h F1 H e1 e2 _ ⟨p, od, kvs, rfl, e2.get hp1, q _ F1 H (.refl e2) ⟨by rw [List.length_map]; exact hl, fun i H fh hi => ⟨fh.get hp1, ?_⟩, fun H fh => ⟨fh.get hp1, ?_⟩, fun i H x H' d F' ef fh hd hy => ?_⟩⟩)
  · rw [List.length_map] at hi; omega
  · rw [List.length_map]; omega
  · obtain ⟨rfl, k, hkv⟩ := hy
    obtain ⟨u, hu, du⟩ := hv.get hd
    rw [List.getElem?_map, hkv] at hu
    cases hu
    exact ⟨F', .refl fh, du.mono (e1.trans ef)⟩
theorem ei_items {elts : List Expr} {kk : Nat} {tpos : Pos} (h : ∀ F1 H, Ex F F1 → Fh F1 H → ∀ Q : VK, Q (.ref p) H → WE X e σ H Q) (hb : attributeBase e "items" X.env (eval e X.env) = eval e X.env) (hline : (apos.endLine == cpos.line) = true) (hp : F p = some (.frz od (.dK kvs))) (hk : kvs.map (·.1) = ds.map (·.1)) (hv : Dats X.K F (kvs.map (·.2)) (ds.map (·.2))) (hl : ds.length ≤ cap) :
    EvI X (.Tuple elts kk tpos) (.Call (.Attribute e "items" apos) [] [] cpos) σ F (itemsD ds) := fun F1 H e1 e2 R q => by
  have hp1 : F1 p = some (.frz od (.dK kvs)) := e1.get hp
  have hlen : kvs.length = ds.length := by simpa using congrArg List.length hk
  refine wi_of (pi_items pe_W hb hline) (h F1 H e1 e2 _ ⟨p, od, kvs, rfl, e2.get hp1, q _ F1 H (.refl e2) ⟨by unfold itemsD; rw [List.length_map]; exact hl, fun i H fh hi => ⟨fh.get hp1, ?_⟩, fun H fh => ⟨fh.get hp1, ?_⟩, fun i H x H' d F' ef fh hd hy => ?_⟩⟩)
  · unfold itemsD at hi; rw [List.length_map] at hi; omega
  · unfold itemsD; rw [List.length_map]; omega
  · obtain ⟨T, k, v, hkv, rfl, hT, rfl⟩ := hy
    unfold itemsD at hd
    rw [List.getElem?_map] at hd
    obtain ⟨kv, hkd, rfl⟩ := Option.map_eq_some_iff.mp hd
    have e1' : k = kv.1 := by
      have z := congrArg (fun l => l[i]?) hk
      simp only [List.getElem?_map, hkv, hkd, Option.map_some, Option.some.injEq] at z
      exact z
    obtain ⟨u, hu, du⟩ := hv.get (show (ds.map (·.2))[i]? = some kv.2 by rw [List.getElem?_map, hkd]; rfl)
    rw [List.getElem?_map, hkv] at hu
    cases hu
    refine ⟨_, .new fh hT, dat_tup fh hT (.cons ?_ (.one (du.mono (e1.trans ef)))) (show 2 ≤ cap by decide)⟩
    rw [e1']
    cases kv.1 with
    | inl i => exact .int i
    | inr x => exact .str x
end
end
end PV

set_option Elab.async false
set_option linter.all false
set_option maxRecDepth 100000
set_option maxHeartbeats 3200000
/-! PV, part Jb: how many unlike texts a list has. -/
namespace PV
open PySem PySem.Spec PyProof.Rows L2
def memK (k : Key) (l : List Key) : Bool := l.any fun j => decide (j = k)
theorem memK_iff {k : Key} {l : List Key} : memK k l = true ↔ k ∈ l := by
  unfold memK
  rw [List.any_eq_true]
  constructor
  · rintro ⟨x, h1, h2⟩
    rw [← of_decide_eq_true h2]; exact h1
  · exact fun h => ⟨k, h, decide_eq_true rfl⟩
/-- how many unlike keys -/
def unlK : List Key → Nat
  | [] => 0
  | x :: r => unlK r + if memK x r = true then 0 else 1
theorem unlK_le : ∀ l : List Key, unlK l ≤ l.length
  | [] => Nat.le_refl _
  | x :: r => by
    have := unlK_le r
    unfold unlK
    rw [List.length_cons]
    split <;> omega
theorem memK_snoc (k x : Key) (l : List Key) : memK k (l ++ [x]) = (memK k l || decide (x = k)) := by
  unfold memK
  rw [List.any_append, List.any_cons, List.any_nil, Bool.or_false]
theorem memK_cons (k x : Key) (l : List Key) : memK k (x :: l) = (decide (x = k) || memK k l) := rfl
theorem unlK_snoc (x : Key) : ∀ l : List Key, unlK (l ++ [x]) = unlK l + if memK x l = true then 0 else 1
  | [] => rfl
  | y :: r => by
    rw [List.cons_append]
    unfold unlK
    rw [unlK_snoc x r, memK_snoc, memK_cons]
    by_cases h : x = y
    · subst h
      cases memK x r <;> simp
    · have h' : ¬ y = x := fun q => h q.symm
      rw [decide_eq_false h, decide_eq_false h']
      cases memK x r <;> cases memK y r <;> simp
theorem memK_strs (x : Str) (r : List Str) : memK (.inr x) (r.map Sum.inr) = decide (x ∈ r) := by
  rw [Bool.eq_iff_iff, memK_iff, decide_eq_true_iff]
  constructor
  · intro h
    obtain ⟨y, h1, h2⟩ := List.mem_map.mp h
    cases h2; exact h1
  · exact fun h => List.mem_map.mpr ⟨x, h, rfl⟩
theorem unlK_strs : ∀ xs : List Str, unlK (xs.map Sum.inr) = unlikeS xs
  | [] => rfl
  | x :: r => by
    rw [List.map_cons]
    unfold unlK unlikeS
    rw [unlK_strs r, memK_strs]
    by_cases h : x ∈ r <;> simp [h]
theorem setOf_same {g : Program} {w : World} {h : Heap} {a : Addr} {S S' : Key → Bool} {n n' : Nat} (hS : h.SetOf (mixKind g w) a S n) (e : ∀ k, S k = S' k) (en : n = n') : h.SetOf (mixKind g w) a S' n' := by
  rw [← (funext e : S = S'), ← en]
  exact hS
section
variable {g : Program} {w : World} {A : Around} {R : Result → Shared → Prop} {J : Addr} {fp wr : List Addr} {G : Array GenState → Array GenState → Prop} {P : Nat → Value → Prop} {St : Nat → Shared → Prop}
theorem update_keys {ks : List Key} (W : WalksS g w A.in1 J fp wr G ks.length P St) (S : Addr) (hSf : S ∉ fp) (hval : ∀ i v, P i v → ∃ k, ks[i]? = some k ∧ (mixKind g w).is k v = true ∧ v.scannable = true) (hb : ks.length + 1 < scanBound) :
    ∀ (m i : Nat) (z : Shared), ks.length - i = m → i ≤ ks.length → St i z → z.heap.SetOf (mixKind g w) S (fun k' => memK k' (ks.take i)) (unlK (ks.take i)) →
      (∀ z', Moved (S :: wr) G z z' → z'.heap.SetOf (mixKind g w) S (fun k' => memK k' ks) (unlK ks) → R (.ok (.ret .none)) z') →
      codeAny (model g w) A (.builtin "set.update.loop" ⟨[.ref S, .ref J], []⟩) R z := by
  have nw : S ∉ wr := fun h => hSf (W.sub _ h)
  have sub : ∀ b ∈ wr, b ∈ S :: wr := fun b q => List.mem_cons_of_mem _ q
  intro m
  induction m with
  | zero =>
    intro i z hk hi hst hS hR
    have ei : i = ks.length := by omega
    subst ei
    refine codeAny_builtin F.entry_set_update_loop ?_
    rw [Around.under_plainId F.plain_set_update_loop _]
    show wpAny _ A.in1 (pyNext (.ref J) >>= _) _ _ z
    refine wpAny_bind (W.done z _ _ hst fun z' hm => ?_)
    show wpAny _ A.in1 (ret Value.none) _ _ z'
    rw [List.take_length] at hS
    refine wpAny_pure (hR z' (hm.mono sub) ?_)
    obtain ⟨o, es, ep, t, ho, rest⟩ := hS
    exact ⟨o, es, ep, t, hm.heap S _ nw ho, rest⟩
  | succ m ih =>
    intro i z hk hi hst hS hR
    have lt : i < ks.length := by omega
    refine codeAny_builtin F.entry_set_update_loop ?_
    rw [Around.under_plainId F.plain_set_update_loop _]
    show wpAny _ A.in1 (pyNext (.ref J) >>= _) _ _ z
    refine wpAny_bind (W.item i z _ _ lt hst fun v z' hP hst' hm => ?_)
    obtain ⟨k, hk1, hk2, hk3⟩ := hval i v hP
    have hS' : z'.heap.SetOf (mixKind g w) S (fun k' => memK k' (ks.take i)) (unlK (ks.take i)) := by
      obtain ⟨o, es, ep, t, ho, rest⟩ := hS
      exact ⟨o, es, ep, t, hm.heap S _ nw ho, rest⟩
    show wpAny _ A.in1 (holding [v] (setAdd S v) >>= _) _ _ z'
    refine wpAny_bind (wpAny_holding ?_)
    unfold setAdd
    refine wpAny_holding ?_
    refine wpAny_bind ((mixKind g w).pyHash (k := k) hk2 ?_)
    have room : unlK (ks.take i) + 1 < scanBound := by
      have h1 := unlK_le (ks.take i)
      rw [List.length_take] at h1
      omega
    have htk : ks.take (i + 1) = ks.take i ++ [k] := by
      rw [List.take_add_one, hk1]; rfl
    refine wpAny_setAddHashed_of (knd := mixKind g w) (s := { z' with toks := z'.toks + 1 }) hk2 hk3 hS' room fun h' hsb hS2 => ?_
    have hSi : h'.SetOf (mixKind g w) S (fun k' => memK k' (ks.take (i + 1))) (unlK (ks.take (i + 1))) := by
      refine setOf_same hS2 (fun k' => ?_) ?_
      · rw [htk, memK_snoc]
        by_cases q2 : k' = k
        · rw [decide_eq_true q2, decide_eq_true q2.symm]
        · rw [decide_eq_false q2, decide_eq_false fun z => q2 z.symm]
      · rw [htk, unlK_snoc]
        cases memK k (ks.take i) <;> rfl
    refine wpAny_pure ⟨plainId_quiet F.plain_set_update_loop _, ih (i + 1) _ (by omega) lt (W.frame _ z' _ _ hst' (Nat.le_succ _) fun b q o e => ?_) hSi fun z'' hm'' hS'' => ?_⟩
    · rw [hsb.2 b (fun q' : b = S => hSf (by rw [← q']; exact q))]; exact e
    · refine hR z'' (Moved.trans W.gtrans ((hm.mono sub).then_heap (Nat.le_succ _) fun b o q e => ?_) hm'') hS''
      rw [hsb.2 b (fun q' : b = S => q (by rw [q']; exact List.mem_cons_self))]; exact e
end
section
variable {g : Program} {w : World} {A : Around} {E : Value → Shared → Prop} {z : Shared}
theorem set_of_keys {l : Addr} {items : Array Value} {ks : List Key} {Q : Value → Shared → Prop} (hh : A.handled = none) (hl : z.heap.IsList l items) (hn : items.size = ks.length) (hi : ∀ (i : Nat) (v : Value), items[i]? = some v → ∃ k, ks[i]? = some k ∧ (mixKind g w).is k v = true ∧ v.scannable = true) (hb : ks.length + 1 < scanBound)
    (h : ∀ (h' : Heap) (tk : Nat), h'.SetOf (mixKind g w) z.heap.objs.size (fun k' => memK k' ks) (unlK ks) → (∀ b o, b < z.heap.objs.size → z.heap.get? b = some o → h'.get? b = some o) → Q (.ref z.heap.objs.size) { z with heap := h', toks := tk }) :
    wpAny (model g w) A (call (.type "set") [.ref l]) Q E z := by
  obtain ⟨c, tl, hmro⟩ := F.called_set.mro
  have hmade := F.called_set.made
  have hsub := F.called_set.sub
  refine wpAny_call (codeAny_of_tree ?_)
  show wpAny _ _ (callAny (.type "set") _) _ _ _
  refine wpAny_pure ⟨Code.quiet_builtin _ (by decide +kernel), codeAny_builtin F.entry_type_call ?_⟩
  rw [Around.under_plain (weight_type_call_type "set" [.ref l] []) rfl]
  have t1 := F.called_set.notType
  have t2 := F.called_set.canCreate
  have t3 := F.typeCall_set_1 (.ref l)
  repeat (any_goals (first | assumption | wp_step))
  refine codeAny_mono (code_set_new_1 (.ref l) (E := E) (Q₁ := fun obj s₁ => ∃ led : Bool, obj = .ref z.heap.objs.size ∧ s₁ = { z with heap := z.heap.push { cls := .type "set", dict := none, data := .set #[] 0 (.fresh 0 0 led) } }) fun led => ⟨led, rfl, rfl⟩) fun r s₁ hr => ?_
  cases r with
  | error e => exact hr
  | ok fl =>
    cases fl with
    | ret obj =>
      obtain ⟨led, rfl, rfl⟩ := hr
      have hS : (z.heap.push { cls := .type "set", dict := none, data := .set #[] 0 (.fresh 0 0 led) }).get? z.heap.objs.size = some { cls := .type "set", dict := none, data := .set #[] 0 (.fresh 0 0 led) } := Heap.get?_push_size _ rfl
      have hT : Shared.TypeIs { z with heap := z.heap.push { cls := .type "set", dict := none, data := .set #[] 0 (.fresh 0 0 led) } } (.ref z.heap.objs.size) "set" := ⟨_, hS, rfl⟩
      have b1 := F.called_set.init.lookup
      have b2 := F.called_set.init.bind (.ref z.heap.objs.size)
      repeat (any_goals (first | assumption | wp_step))
      refine codeAny_mono (codeAny_call_builtin (R := wants (fun r s₂ => r = .none ∧ ∃ h' tk, s₂ = { z with heap := h', toks := tk } ∧
          h'.SetOf (mixKind g w) z.heap.objs.size (fun k' => memK k' ks) (unlK ks) ∧ (∀ b o, b < z.heap.objs.size → z.heap.get? b = some o → h'.get? b = some o)) E) F.called_set.init.plain F.entry_set_init (check_set_init_1 hT ?_)) fun r₂ s₂ hr₂ => ?_
      · obtain ⟨ol, hol, hcl, nl, hdl⟩ := hl
        obtain ⟨ocls, odict, odata, oslots⟩ := ol
        simp only at hcl hdl
        subst hcl; subst hdl
        have hol' : (z.heap.push { cls := .type "set", dict := none, data := .set #[] 0 (.fresh 0 0 led) }).get? l = some { cls := .type "list", dict := odict, data := .seq items nl, slots := oslots } := Heap.get?_push_of_some _ hol
        have c1 := F.sub_list_set
        have c2 := F.sub_list_frozenset
        have c3 : (Value.type "list" == Value.type "dict") = false := by decide
        have hl1 : (z.heap.push { cls := .type "set", dict := none, data := .set #[] 0 (.fresh 0 0 led) }).IsList l items := ⟨_, hol', rfl, nl, rfl⟩
        unfold Builtin.«set.__init__» noKeywords Builtin.Frozenset.updateFrom
        generalize hPI : pyIter = PI
        wp_walk
        subst hPI
        refine wpAny_pyIter_list hl1 ?_
        refine wpAny_bind (wpAny_runValue ?_)
        have hlS : l < z.heap.objs.size := Heap.lt_size hol
        have hh3 : A.in1.in1.in1.handled = none := by simp [hh]
        have hneI : l ≠ (z.heap.push { cls := .type "set", dict := none, data := .set #[] 0 (.fresh 0 0 led) }).objs.size := by
          rw [Heap.size_push]; exact Nat.ne_of_lt (Nat.lt_succ_of_lt hlS)
        have hSf : z.heap.objs.size ∉ [(z.heap.push { cls := .type "set", dict := none, data := .set #[] 0 (.fresh 0 0 led) }).objs.size, l] := by
          rw [Heap.size_push]; simp only [List.mem_cons, List.mem_singleton, List.not_mem_nil, or_false, not_or]
          exact ⟨Nat.ne_of_lt (Nat.lt_succ_self _), Nat.ne_of_gt hlS⟩
        have WW := (Walks.list (prog := g) (w := w) hh3 _ l hneI items).toS
        rw [hn] at WW
        refine update_keys (ks := ks) WW z.heap.objs.size hSf hi hb (ks.length - 0) 0 _ (by omega) (Nat.zero_le _) ⟨⟨_, Heap.get?_push_size _ rfl, rfl, rfl⟩, (hl1.push _)⟩ ?hS0 ?hR
        case hS0 =>
          have hget : ((z.heap.push { cls := .type "set", dict := none, data := .set #[] 0 (.fresh 0 0 led) }).push { cls := .type "list_iterator", data := .fields #[.ref l, .int 0 0] }).get? z.heap.objs.size
              = some { cls := .type "set", dict := none, data := .set #[] 0 (.fresh 0 0 led) } := Heap.get?_push_of_some _ hS
          exact setOf_same (S := fun _ => false) (n := 0) ⟨_, #[], 0, _, hget, ⟨rfl, rfl, rfl⟩, rfl, (fun e he => by simp at he), (fun k => by simp), (by unfold scanBound; decide), (by rfl), rfl⟩ (fun _ => rfl) rfl
        case hR =>
          intro s' hm hS'
          obtain ⟨h', g', d', tk', os'⟩ := s'
          have eg : g' = z.gens := hm.gens
          have ed : d' = z.drawn := hm.drawn
          have eo : os' = z.os := hm.os
          subst eg; subst ed; subst eo
          show wpAny _ _ _ _ _ _
          refine wpAny_pure ?_
          show wpAny _ _ (ret Value.none) _ _ _
          refine wpAny_pure ⟨rfl, h', tk', rfl, hS', fun b o q e => ?_⟩
          have q1 : b ≠ z.heap.objs.size := Nat.ne_of_lt q
          have q2 : b ≠ (z.heap.push { cls := .type "set", dict := none, data := .set #[] 0 (.fresh 0 0 led) }).objs.size := by
            rw [Heap.size_push]; exact Nat.ne_of_lt (Nat.lt_succ_of_lt q)
          exact hm.heap b o (by simp only [List.mem_cons, List.mem_singleton, List.not_mem_nil, or_false, not_or]; exact ⟨q1, q2⟩) (Heap.get?_push_of_some _ (Heap.get?_push_of_some _ e))
      · cases r₂ with
        | error e => exact hr₂
        | ok fl₂ =>
          cases fl₂ with
          | ret r =>
            obtain ⟨rfl, h', tk, rfl, hS', hk'⟩ := hr₂
            repeat (any_goals (first | assumption | wp_step))
            exact h _ _ hS' hk'
          | _ => exact hr₂.elim
    | _ => exact hr.elim
end
section
variable [Tabl] {X : Cx} {a : Expr} {σ : L2.St} {F : Hp} {ds : List D} {pos p p2 : Pos}
theorem pe_lenSetS {te : TE} {q : Pos} (hg : Gl X "len") (hm : X.mg "len" = none) (hg2 : Gl X "set") (hm2 : X.mg "set" = none) (ha : PE X a te) (hc : X.calm = true) (na : Pl X a) :
    PE X (.Call (.Name "len" p) [.Call (.Name "set" p2) [a] [] q] [] pos) (fun σ H Q => te σ H fun x H1 => ∃ (l : Addr) (xs : List Str), x = .ref l ∧ SqL X.K H1 l (xs.map V.str) ∧ xs.length ≤ 60 ∧ Q (.int (unlikeS xs : Nat)) H1) := by
  refine ⟨fun pins s σ H Q I h => ?_⟩
  refine Call_ (ld_blt I hg hm boot_len ?_)
  refine PyProof.Rows.callWith_builtin1 (PyProof.Rows.args_cons ?_ rfl) rfl rfl
  refine Call_ (ld_blt I hg2 hm2 boot_set ?_)
  refine PyProof.Rows.callWith_type1 (PyProof.Rows.args_cons (thn (ha.run pins s σ H _ I h) fun v s1 ⟨x, H1, I1, r1, q1⟩ => PyProof.Rows.args_nil ?_) (na [])) (na []) rfl
  obtain ⟨l, xs, rfl, hq, hl, q1⟩ := q1
  cases r1
  obtain ⟨its, r, pl, hz⟩ := I1.list hq
  have hlen : its.toArray.size = (xs.map Sum.inr : List Key).length := by rw [List.size_toArray, ← r.length, List.length_map, List.length_map]
  have hat : ∀ (i : Nat) (v : Value), its.toArray[i]? = some v → ∃ k, (xs.map Sum.inr : List Key)[i]? = some k ∧ (mixKind X.prog X.w).is k v = true ∧ v.scannable = true := fun i v hv => by
    have go : ∀ {xs : List Str} {its : List Value} (i : Nat), Vals (xs.map V.str) its → its[i]? = some v → ∃ x, xs[i]? = some x ∧ RelV (.str x) v := by
      intro xs
      induction xs with
      | nil => intro its i r h; cases r; simp at h
      | cons x r ih =>
        intro its i rr h
        cases rr with
        | cons r1 r2 =>
          cases i with
          | zero => cases h; exact ⟨x, rfl, r1⟩
          | succ i => exact ih i r2 (by simpa using h)
    obtain ⟨x, h1, h2⟩ := go i r (by simpa using hv)
    exact ⟨.inr x, by rw [List.getElem?_map, h1]; rfl, kV_is (k := .inr x) h2, key_scan (k := .inr x) h2⟩
  have hsmall : (xs.map Sum.inr : List Key).length + 1 < scanBound := by rw [List.length_map]; unfold scanBound; omega
  refine set_of_keys (I1.ok.hd hc) pl.isList hlen hat hsmall fun h' tk hS hk => ?_
  refine PyProof.Rows.args_nil ?_
  obtain ⟨o, es, ep, t, ho, hex, hd, _, _, _, hf, hn⟩ := hS
  have I2 : Inv X pins σ H1 { s1 with heap := h', toks := tk } := I1.kept fun b o e => hk b o (Heap.lt_size e) e
  have hle := unlK_le (xs.map Sum.inr : List Key)
  rw [List.length_map] at hle
  exact call_len_set ho hex hd hf (by rw [hn]; omega) ⟨.int _, H1, I2.tok _, ⟨_, by rw [hn, unlK_strs]⟩, q1⟩
theorem ev_lensetS {q : Pos} {xs : List Str} (hg : Gl X "len") (hm : X.mg "len" = none) (hg2 : Gl X "set") (hm2 : X.mg "set" = none) (hc : X.calm = true) (na : Pl X a) (ha : EvZ X a σ F (.lst ds)) (hi : strsD ds = some xs) (hl : xs.length ≤ 60) :
    EvD X (.Call (.Name "len" p) [.Call (.Name "set" p2) [a] [] q] [] pos) σ F 0 (.int (unlikeS xs : Nat)) :=
  fun F1 H e1 e2 Q qq => w_of (pe_lenSetS hg hm hg2 hm2 pe_W hc na) (ha F1 H e1 e2 _ fun v F2 H2 st d1 => by
    cases d1 with
    | lst h1 h2 h3 =>
      refine ⟨_, xs, rfl, ?_, hl, give qq st (.int _)⟩
      rw [← strs_dats h2 hi]
      exact .of (st.fh.get h1))
end
end PV

set_option Elab.async false
set_option linter.all false
set_option maxRecDepth 100000
set_option maxHeartbeats 1000000
/-! PV, part Jc: dict comprehensions that own their values. -/
namespace PV
open PySem PySem.Spec PyProof.Rows L2
variable [Tabl]
section
variable {K : PySem.W.Frag} {F F' H H' : Hp}
theorem Owns.stp {k : Nat} {vs : List V} {ds : List D} {fp : List Addr} (h : Owns K F H k vs ds fp) (st : Stp F H F' H') : Owns K F' H' k vs ds fp := h.keep st.ff fun a ha => by
  obtain ⟨h1, o, h2, _, _, nt⟩ := h.loose a ha
  exact ⟨by rw [h2]; exact st.hh.get h2 nt, st.lse h1 (by rw [h2]; exact fun z => nomatch z)⟩
theorem Owns.app {k : Nat} : ∀ {vs ws : List V} {ds es : List D} {fp fq : List Addr}, Owns K F H k vs ds fp → Owns K F H k ws es fq → (∀ a ∈ fp, a ∉ fq) → Owns K F H k (vs ++ ws) (ds ++ es) (fp ++ fq)
  | _, _, _, _, _, _, .nil, h, _ => h
  | _, _, _, _, _, fq, .cons (fp := f1) (fq := f2) h t n, g, dj => by
    have ih := t.app g fun a ha => dj a (List.mem_append_right _ ha)
    have := Owns.cons h ih fun a ha z => by
      rcases List.mem_append.mp z with z | z
      · exact n a ha z
      · exact dj a (List.mem_append_left _ ha) z
    simpa [List.append_assoc] using this
variable {κ : Type} [DecidableEq κ]
theorem map_other {α : Type} {key : κ} {x : α} : ∀ {l : List (κ × α)}, key ∉ l.map (·.1) → (l.map fun kv => if kv.1 = key then (kv.1, x) else kv) = l
  | [], _ => rfl
  | (a, b) :: r, h => by
    rw [List.map_cons, map_other fun z => h (List.mem_cons_of_mem _ z), if_neg fun z => h (by rw [← z]; exact List.mem_cons_self)]
theorem repl_own {k : Nat} {key : κ} {u : V} {z : D} {fq : List Addr} (ou : Own K F H k u z fq) : ∀ {kvs : List (κ × V)} {ds : List (κ × D)} {fp : List Addr}, kvs.map (·.1) = ds.map (·.1) → (ds.map (·.1)).Nodup → key ∈ ds.map (·.1) → Owns K F H k (kvs.map (·.2)) (ds.map (·.2)) fp → (∀ a ∈ fq, a ∉ fp) →
    ∃ fp', Owns K F H k ((kvs.map fun kv => if kv.1 = key then (kv.1, u) else kv).map (·.2)) ((ds.map fun kv => if kv.1 = key then (kv.1, z) else kv).map (·.2)) fp' ∧ ∀ a ∈ fp', a ∈ fp ∨ a ∈ fq
  | [], [], _, _, _, hm, _, _ => by cases hm
  | [], _ :: _, _, e, _, _, _, _ => by simp at e
  | _ :: _, [], _, e, _, _, _, _ => by simp at e
  | (a, v) :: r, (b, d) :: s, fp, e, nd, hm, o, dj => by
    simp only [List.map_cons, List.cons.injEq] at e
    obtain ⟨rfl, e2⟩ := e
    rw [List.map_cons, List.nodup_cons] at nd
    cases o with
    | cons h1 h2 h3 =>
      rename_i f1 f2
      by_cases q : a = key
      · subst q
        have n1 : a ∉ r.map (·.1) := by rw [e2]; exact nd.1
        refine ⟨fq ++ f2, ?_, fun x hx => ?_⟩
        · simp only [List.map_cons, if_true]
          rw [map_other n1, map_other nd.1]
          exact .cons ou h2 fun x hx z => dj x hx (List.mem_append_right _ z)
        · rcases List.mem_append.mp hx with w | w
          · exact .inr w
          · exact .inl (List.mem_append_right _ w)
      · have hm' : key ∈ s.map (·.1) := by
          rcases List.mem_cons.mp hm with w | w
          · exact absurd w.symm q
          · exact w
        obtain ⟨fp', p1, p2⟩ := repl_own ou e2 nd.2 hm' h2 fun x hx z => dj x hx (List.mem_append_right _ z)
        refine ⟨f1 ++ fp', ?_, fun x hx => ?_⟩
        · simp only [List.map_cons, if_neg q]
          exact .cons h1 p1 fun x hx z => (p2 x z).elim (h3 x hx) fun w => dj x w (List.mem_append_left _ hx)
        · rcases List.mem_append.mp hx with w | w
          · exact .inl (List.mem_append_left _ w)
          · exact (p2 x w).imp (fun w => List.mem_append_right _ w) id
theorem put_own {k : Nat} {key : κ} {u : V} {z : D} {fp fq : List Addr} {kvs : List (κ × V)} {ds : List (κ × D)} (e : kvs.map (·.1) = ds.map (·.1)) (nd : (ds.map (·.1)).Nodup) (o : Owns K F H k (kvs.map (·.2)) (ds.map (·.2)) fp) (ou : Own K F H k u z fq) (dj : ∀ a ∈ fq, a ∉ fp) :
    ∃ fp', (putK kvs key u).map (·.1) = (putD ds key z).map (·.1) ∧ ((putD ds key z).map (·.1)).Nodup ∧ Owns K F H k ((putK kvs key u).map (·.2)) ((putD ds key z).map (·.2)) fp' ∧ ∀ a ∈ fp', a ∈ fp ∨ a ∈ fq := by
  have any_iff : ∀ {α : Type} (l : List (κ × α)), (l.any fun kv => decide (kv.1 = key)) = true ↔ key ∈ l.map (·.1) := by
    intro α l
    rw [List.any_eq_true]
    constructor
    · rintro ⟨p, h1, h2⟩
      exact List.mem_map.mpr ⟨p, h1, of_decide_eq_true h2⟩
    · intro h
      obtain ⟨p, h1, h2⟩ := List.mem_map.mp h
      exact ⟨p, h1, decide_eq_true h2⟩
  have f1 : ∀ {α : Type} (x : α) (l : List (κ × α)), (l.map fun kv => if kv.1 = key then (kv.1, x) else kv).map (·.1) = l.map (·.1) := by
    intro α x l; rw [List.map_map]; congr 1; funext kv; simp only [Function.comp]; split <;> rfl
  unfold putK putD
  by_cases hm : key ∈ ds.map (·.1)
  · rw [if_pos ((any_iff kvs).mpr (by rw [e]; exact hm)), if_pos ((any_iff ds).mpr hm)]
    obtain ⟨fp', p1, p2⟩ := repl_own (key := key) ou e nd hm o dj
    exact ⟨fp', by rw [f1, f1]; exact e, by rw [f1]; exact nd, p1, p2⟩
  · rw [if_neg fun q => hm (by rw [← e]; exact (any_iff kvs).mp q), if_neg fun q => hm ((any_iff ds).mp q)]
    refine ⟨fp ++ (fq ++ []), by rw [List.map_append, List.map_append, e]; rfl, ?_, ?_, fun a ha => ?_⟩
    · rw [List.map_append, List.nodup_append]
      refine ⟨nd, by simp, fun a ha b hb => ?_⟩
      have : b = key := by simpa using hb
      subst this
      exact fun q => hm (by rw [← q]; exact ha)
    · rw [List.map_append, List.map_append]
      exact o.app (.cons ou .nil (by simp)) fun a ha z => dj a (by simpa using z) ha
    · rcases List.mem_append.mp ha with w | w
      · exact .inl w
      · exact .inr (by simpa using w)
end
section
variable {X : Cx} {kx vx tgE iter : Expr} {ifs : List Expr} {scope : Scope} {own : List (Str × Nat)} {pos : Pos} {tg : Tg} {σ : L2.St} {F : Hp} {ρ : Ro} {ds : List D} {ys : List (Key × D)} {t gk gv : Ro → Option (Nat × D)}
/-- the reading of a dict comprehension that owns its values -/
theorem dco_read (hi : EvI X tgE iter σ F ds) (hs : SlotR X.K F σ ρ) (hsub : ∀ i ∈ tgIdx tg, i ∈ own.map (·.2))
    {tt : TT} {tk tv : TE}
    (ht : ∀ F' σ' ρ' b k, Ex F F' → SlotR X.K F' σ' ρ' → t ρ' = some (k, .bl b) → ∀ F1 H, Ex F' F1 → Fh F1 H → ∀ Q : Bool → Hp → Prop, (∀ F2 H2, Stp F1 H F2 H2 → Q b H2) → tt σ' H Q)
    (hk : ∀ F' σ' ρ' k y, Ex F F' → SlotR X.K F' σ' ρ' → gk ρ' = some (k, y) → ∀ F1 H, Ex F' F1 → Fh F1 H → ∀ Q : VK, (∀ v F2 H2, Stp F1 H F2 H2 → Dat X.K F2 v y → Q v H2) → tk σ' H Q)
    (he : ∀ F' σ' ρ' k y, Ex F F' → SlotR X.K F' σ' ρ' → gv ρ' = some (k, y) → ∀ F1 H, Ex F' F1 → Fh F1 H → ∀ Q : VK, (∀ v F2 H2 fq, Stp F1 H F2 H2 → Own X.K F2 H2 k v y fq → (∀ a ∈ fq, H a = none) → Q v H2) → tv σ' H Q)
    (h : dcoL tg t gk gv (wipeR ρ (own.map (·.2))) ds [] = some ys) {F1 H : Hp} (e1 : Ex F F1) (e2 : Fh F1 H) {Q : VK}
    (q : ∀ v F2 H2 fp, Stp F1 H F2 H2 → Own X.K F2 H2 2 v (.dic ys) fp → (∀ a ∈ fp, H a = none) → Q v H2) : tDc (WI X tgE iter) (gOf X.K tg) tt tk tv (own.map (·.2)) σ H Q := by
  refine hi F1 H e1 e2 _ fun J Fa Ha sa wk => fun D hD => ?_
  have hl := wk.len
  refine ⟨fun i m H' => i + m = ds.length ∧ ∃ F' kvs acc fp, Stp F1 H F' H' ∧ Ex Fa F' ∧ H' D = some (.dK kvs) ∧ F' D = none ∧ kvs.map (·.1) = acc.map (·.1) ∧ (acc.map (·.1)).Nodup ∧ Owns X.K F' H' 1 (kvs.map (·.2)) (acc.map (·.2)) fp ∧ D ∉ fp ∧ (∀ a ∈ fp, H a = none) ∧ acc.length ≤ i ∧ dcoL tg t gk gv (wipeR ρ (own.map (·.2))) (ds.drop i) acc = some ys,
    ⟨ds.length, by omega, Fa, [], [], [], (sa.trans (.loose sa.fh hD)), .refl _, upd_same, sa.fh.free hD, rfl, .nil, .nil, by simp, by simp, Nat.le_refl _, by rw [List.drop_zero]; exact h⟩, ?_⟩
  rintro i m H' ⟨hm, F', kvs, acc, fp, st, fa, hD', hF', hkk, nd, hv, nD, frp, hal, hyb⟩
  have hDH : H D = none := sa.hh.free hD
  by_cases hlt : i < ds.length
  · obtain ⟨d, hd⟩ := getElem?_lt hlt
    have hdrop : ds.drop i = d :: ds.drop (i + 1) := by
      obtain ⟨hl', e⟩ := List.getElem?_eq_some_iff.mp hd
      rw [← e]; exact List.drop_eq_getElem_cons hl'
    refine .inr ⟨wk.go i H' (fa.trans st.fh) hlt, fun H'' => i + 1 + (m - 1) = ds.length ∧ ∃ F' kvs acc fp, Stp F1 H F' H'' ∧ Ex Fa F' ∧ H'' D = some (.dK kvs) ∧ F' D = none ∧ kvs.map (·.1) = acc.map (·.1) ∧ (acc.map (·.1)).Nodup ∧ Owns X.K F' H'' 1 (kvs.map (·.2)) (acc.map (·.2)) fp ∧ D ∉ fp ∧ (∀ a ∈ fp, H a = none) ∧ acc.length ≤ i + 1 ∧ dcoL tg t gk gv (wipeR ρ (own.map (·.2))) (ds.drop (i + 1)) acc = some ys,
      fun H'' hn => ⟨m - 1, by omega, hn⟩, fun x Hx hy => ?_⟩
    obtain ⟨Fx, sx, dx⟩ := wk.yld i H' x Hx d F' fa st.fh hd hy
    rw [hdrop] at hyb
    unfold dcoL at hyb
    split at hyb
    · cases hyb
    · rename_i ρ1 hasg
      have hsx : SlotR X.K Fx (L2.wipe σ (own.map (·.2))) (wipeR ρ (own.map (·.2))) := (hs.mono (e1.trans (st.ff.trans sx.ff))).wipe _
      refine asg_ok hsx dx sx.fh hasg fun σ2 hs2 hw => ⟨?_, ?_⟩
      · rw [hw _ hsub]
        have : ∀ (ws : List Nat) (σ : L2.St), L2.wipe (L2.wipe σ ws) ws = L2.wipe σ ws := by
          intro ws σ
          have gen : ∀ (us : List Nat) (σ : L2.St), (∀ i ∈ us, i ∈ ws) → L2.wipe (L2.wipe σ us) ws = L2.wipe σ ws := by
            intro us
            induction us with
            | nil => intro σ _; rfl
            | cons u us ih =>
              intro σ hu
              show L2.wipe ((L2.wipe σ us).set u none) ws = _
              rw [wipe_set (hu u List.mem_cons_self), ih σ fun j hj => hu j (List.mem_cons_of_mem _ hj)]
          exact gen ws σ fun _ h => h
        exact this _ _
      have efx : Ex F Fx := e1.trans (st.ff.trans sx.ff)
      have lx : Fx D = none := sx.lse hF' (by rw [hD']; exact fun z => nomatch z)
      have hxD : Hx D = some (.dK kvs) := sx.hh.get hD'
      split at hyb
      · rename_i kk hcond
        refine ht Fx σ2 ρ1 true kk efx hs2 hcond Fx Hx (.refl _) sx.fh _ fun F3 H3 s3 => iteT ?_
        split at hyb
        · rename_i k2 y z hy2 hz2
          refine hk Fx σ2 ρ1 k2 y efx hs2 hy2 F3 H3 s3.ff s3.fh _ fun v F4 H4 s4 dv => ?_
          refine he Fx σ2 ρ1 1 z efx hs2 hz2 F4 H4 (s3.ff.trans s4.ff) s4.fh _ fun u F5 H5 fq s5 ou frq => ?_
          have h3D : H3 D = some (.dK kvs) := s3.hh.get hxD
          have h4D : H4 D = some (.dK kvs) := s4.hh.get h3D
          have h5D : H5 D = some (.dK kvs) := s5.hh.get h4D
          have l3 : F3 D = none := s3.lse lx (by rw [hxD]; exact fun z => nomatch z)
          have l4 : F4 D = none := s4.lse l3 (by rw [h3D]; exact fun z => nomatch z)
          have l5 : F5 D = none := s5.lse l4 (by rw [h4D]; exact fun z => nomatch z)
          split at hyb
          · rename_i key hkey
            have hvl : kvs.length = acc.length := by simpa using congrArg List.length hkk
            have sAll := ((sx.trans s3).trans s4).trans s5
            have hin : ∀ a ∈ fp, H4 a ≠ none := fun a ha => by
              obtain ⟨_, o, ho, _, _, nt⟩ := hv.loose a ha
              rw [((sx.trans s3).trans s4).hh.get ho nt]; exact fun z => nomatch z
            have dj : ∀ a ∈ fq, a ∉ fp := fun a ha z => hin a z (frq a ha)
            have nDq : D ∉ fq := fun z => by rw [frq D z] at h4D; cases h4D
            obtain ⟨fp', p1, p2, p3, p4⟩ := put_own (key := key) hkk nd (hv.stp sAll) ou dj
            have nD' : D ∉ fp' := fun z => (p4 D z).elim nD nDq
            have frH : ∀ a ∈ fq, H a = none := fun a ha => (((st.trans sx).trans s3).trans s4).hh.free (frq a ha)
            exact ⟨kvs, key, key_dat dv hkey, h5D, cap_lt (by omega), by omega, F5, _, _, fp', ((((st.trans sx).trans s3).trans s4).trans s5).updD l5 hDH h5D, fa.trans (sx.ff.trans (s3.ff.trans (s4.ff.trans s5.ff))), upd_same, l5, p1, p2, p3.keep (.refl _) (fun a ha => ⟨upd_ne fun z => nD' (by rw [← z]; exact ha), (p3.loose a ha).1⟩), nD', fun a ha => (p4 a ha).elim (frp a) (frH a), Nat.le_trans (putD_le _ _ _) (by omega), hyb⟩
          · cases hyb
        · cases hyb
      · rename_i kk hcond
        refine ht Fx σ2 ρ1 false kk efx hs2 hcond Fx Hx (.refl _) sx.fh _ fun F3 H3 s3 => iteF ?_
        have h3D : H3 D = some (.dK kvs) := s3.hh.get hxD
        have l3 : F3 D = none := s3.lse lx (by rw [hxD]; exact fun z => nomatch z)
        exact ⟨by omega, F3, kvs, acc, fp, (st.trans sx).trans s3, fa.trans (sx.ff.trans s3.ff), h3D, l3, hkk, nd, hv.stp (sx.trans s3), nD, frp, by omega, hyb⟩
      · cases hyb
  · have e : i = ds.length := by omega
    subst e
    rw [List.drop_length] at hyb
    cases hyb
    refine .inl ⟨wk.stop H' (fa.trans st.fh), q _ F' H' (D :: fp) st (.dic hD' hF' hkk hv nD (by omega)) fun a ha => ?_⟩
    rcases List.mem_cons.mp ha with rfl | ha
    · exact hDH
    · exact frp a ha
end
end PV

set_option Elab.async false
set_option linter.all false
set_option maxRecDepth 100000
set_option maxHeartbeats 1000000
/-! PV, part Jd: a, *b = a tuple. -/
namespace PV
open PySem PySem.Spec PyProof.Rows L2
section
variable {P : Program} {w : World} {A : Around} {E : Value → Shared → Prop} {z : Shared}
theorem star_items {l : Addr} {v0 : Value} {vs : List Value} {Q : List Value → Shared → Prop} (hl : IsTup z.heap l (v0 :: vs).toArray) (hh : A.handled = none) (hz : vs.length + 1 ≤ sizeLine)
    (q : ∀ (h₂ : Heap) (tk : Nat), (∀ b o, b ≠ z.heap.objs.size → z.heap.get? b = some o → h₂.get? b = some o) → Q [v0, .ref h₂.objs.size] { z with heap := h₂.push (seqObj "list" vs.toArray 0), toks := tk }) : wpAny (model P w) A (unpackItems (.ref l) 2 (some 1)) Q E z := by
  have ne : l ≠ z.heap.objs.size := by obtain ⟨o, ho, _⟩ := hl; exact Nat.ne_of_lt (Heap.lt_size ho)
  have lt : l < z.heap.objs.size := by obtain ⟨o, ho, _⟩ := hl; exact Heap.lt_size ho
  have sz : (v0 :: vs).toArray.size = vs.length + 1 := by simp
  unfold unpackItems
  refine wpAny_bind ?_
  unfold notIterableAtAll
  refine wpAny_bind (wpAny_specialOf hl.typeIs slot_tuple_iter.lookup (wpAny_pure ?_))
  simp only [Bool.false_eq_true, if_false]
  refine wpAny_bind (wpAny_holding (iter_tuple hl ?_))
  refine wpAny_bind (wpAny_holding (draw_tuple ne 1 0 _ _ ⟨_, Heap.get?_push_size _ rfl, rfl, rfl⟩ (hl.push _) (by rw [sz]; omega) fun h₁ i1 k1 => ?_))
  have l1 : IsTup h₁ l (v0 :: vs).toArray := (hl.push _).extBut k1.extBut ne
  rw [Nat.zero_add] at i1
  obtain ⟨oi, hoi, i2⟩ := id i1
  obtain ⟨ol, hol, l2⟩ := id l1
  rw [List.drop_zero]
  have e0 : ((v0 :: vs).toArray.toList.take 1) = [v0] := rfl
  rw [e0, if_neg (show ¬ ([v0].length < 1) by simp)]
  refine wpAny_bind (wpAny_holding (PySem.W.kun_collect (s := { z with heap := h₁ }) (T := "tuple_iterator") (.inr (.inr (.inr rfl))) (Walks.tuple (A := A.in1) hh z.heap.objs.size l ne (v0 :: vs).toArray) (fun j u st => st.1.typeIs) (k := 1) (by rw [sz]; omega) ⟨i1, l1⟩ (Heap.lt_size hoi) (Heap.lt_size hol) (fun h₂ tk k2 => ?_) (by rw [sz]; exact hz)))
  have e1 : (v0 :: vs).toArray.toList.drop 1 = vs := rfl
  rw [e1]
  show wpAny _ _ (if vs.length < 2 - 1 - 1 then _ else _) _ _ _
  rw [if_neg (by omega)]
  show wpAny _ _ (newList (vs.take (vs.length - 0)) >>= fun d => pure ([v0] ++ [d] ++ vs.drop (vs.length - 0))) _ _ _
  rw [Nat.sub_zero, List.take_length, List.drop_length]
  refine wpAny_bind (wpAny_newList ?_ (by omega))
  exact wpAny_pure (q h₂ tk fun b o hb e => k2 b o hb (k1.extBut b o hb (Heap.get?_push_of_some _ e)))
end
section
variable {X : Cx} {x y : Str} {px py ps pos : Pos} {i j k : Nat}
/-- (a, *b) = a tuple -/
def gStar (K : PySem.W.Frag) (i j : Nat) : TG := fun v σ H Q => ∃ a x xs, v = .ref a ∧ SqT K H a (x :: xs) ∧ ∀ p, H p = none → Q ((σ.set i (some x)).set j (some (.ref p))) (upd H p (.lst xs))
theorem pg_star (hc : X.calm = true) (h : PGs X [.Name x px, .Name y py] (gCons (gName i) (gCons (gName j) gNil))) : PG X (.Tuple [.Name x px, .Starred (.Name y py) ps] k pos) (gStar X.K i j) := by
  refine ⟨fun pins s σ H v u Q I r hw => ?_⟩
  obtain ⟨a, x0, xs, e1, hq, hw⟩ := hw
  subst e1
  cases r
  obtain ⟨its, rv, ht, hz⟩ := I.tuple hq
  cases rv with
  | cons r0 rs =>
    rename_i v0 vs
    rw [assign_Tuple]
    refine wpAny_bind (wpAny_standAt ?_)
    unfold unpack
    show wpAny _ _ (holding [.ref a] (unpackItems (.ref a) 2 (some 1)) >>= fun us => assignInOrder ((assignEach [.Name x px, .Name y py] X.env).map (·.2)) us) _ _ s
    have hl := rs.length
    rw [List.length_cons] at hz
    refine wpAny_bind (wpAny_holding (star_items ht (I.ok.hd hc) (by omega) fun h₂ tk hk => ?_))
    have I1 : Inv X pins σ H { s with heap := h₂, toks := tk } := I.kept fun b o e => hk b o (Nat.ne_of_lt (Heap.lt_size e)) e
    have hf : H h₂.objs.size = none := I1.hok.fresh (Nat.le_refl _)
    have I2 : Inv X pins σ (upd H h₂.objs.size (.lst xs)) { s with heap := h₂.push (seqObj "list" vs.toArray 0), toks := tk } := I1.laid (t' := tk) (fun b u e => Heap.get?_push_of_some _ e) (Nat.le_refl _) ⟨by omega, vs, 0, rs, Heap.get?_push_size _ rfl⟩
    exact h.run pins _ σ _ [x0, .ref h₂.objs.size] [v0, .ref h₂.objs.size] Q I2 (.cons r0 (.cons rfl .nil)) ⟨_, _, rfl, _, _, rfl, rfl, hw _ hf⟩
end
end PV

set_option Elab.async false
set_option linter.all false
set_option maxRecDepth 100000
set_option maxHeartbeats 2000000
/-! PV, part Je: a lambda of one parameter, made and called. -/
namespace PV
open PySem PySem.Spec PyProof.Rows L2 LamX NdefX
variable [Tabl]
/-- the lambda's own look -/
structure Lm where
  qual : Str
  params : Arguments
  body : Expr
  scope : Scope
  cl : List (Str × Addr)
  c : Addr
abbrev Lm.fd (F : Lm) (pm ctv : Value) : FuncData := PySem.W.kla_fn "<lambda>" F.qual F.params F.body F.scope F.cl pm (.ref F.c) ctv
abbrev Lm.nf (F : Lm) : NF := ⟨"<lambda>", F.qual, F.params, [], F.scope, F.cl, F.c⟩
def LmO (f : Addr) (F : Lm) : HO := .ext fun h => ∃ (pm ctv : Value), h.get? f = some ({ cls := .type "function", data := .func (F.fd pm ctv) } : Obj)
section
variable {X : Cx} {pins : List (Addr × Obj)} {σ : L2.St} {H : Hp} {s : Shared}
theorem inv_lm {F : Lm} {o : Obj} {t' : Nat} {pm ctv : Value} (I : Inv X pins σ H s) (ho : o = { cls := .type "function", data := .func (F.fd pm ctv) }) : Inv X pins σ (upd H s.heap.objs.size (LmO s.heap.objs.size F)) { s with heap := s.heap.push o, toks := t' } := by
  subst ho
  refine I.laid (a := s.heap.objs.size) (fun b u e => Heap.get?_push_of_some _ e) (Nat.le_refl _) ?_
  have e : (s.heap.push ({ cls := .type "function", data := .func (F.fd pm ctv) } : Obj)).get? s.heap.objs.size = some ({ cls := .type "function", data := .func (F.fd pm ctv) } : Obj) := Heap.get?_push_size _ rfl
  exact ⟨⟨pm, ctv, e⟩, ⟨_, e⟩, fun h1 h2 ⟨p, t, z⟩ st => ⟨p, t, st _ z⟩⟩
theorem lm_make {c P : Addr} {params : Arguments} {body : Expr} {scope : Scope} {pos : Pos} {E : Value → Shared → Prop} {Q : Value → Shared → Prop} (I : Inv X pins σ H s) (TB : TabB X.base X.mg c P) (hcode : X.env.code = .ref c)
    (hm : (P, X.env.qual ++ "<lambda>") ∈ Tabl.T) (hu : ∀ p ∈ Tabl.T, p.1 = P → p.2 = X.env.qual ++ "<lambda>") (hT : Tabs Tabl.T H) (hdef : defaultsOf params X.env = ([], [])) (hfree : ∀ y ∈ scope.names, y.2 = .free → ∃ c, X.env.cells.lookup y.1 = some c)
    (h : ∀ (f c' : Addr) (H1 : Hp) (s' : Shared), Inv X pins σ H1 s' → Ex H H1 → Tabs Tabl.T H1 → H f = none → H1 f = some (LmO f ⟨X.env.qual ++ "<lambda>", params, body, scope, cloFrom X.env.cells scope.names [], c'⟩) → H1 c' = some (CodeO c' (X.env.qual ++ "<lambda>")) → Q (.ref f) s') :
    wpAny (model X.prog X.w) X.A (eval (.Lambda params body scope pos) X.env) Q E s := by
  refine PySem.W.kla_eval hdef ?_
  obtain ⟨ps, hP, ht, ha⟩ := hT _ hm
  have bP : s.heap.BuiltinsAt X.mg P := TB.bm.keeps I.bk
  have hP' : s.heap.get? P = some { cls := .none, data := .fields ps } := I.hok P _ hP
  cases hc : codeAmong pos ps.toList with
  | none =>
    refine PySem.W.kla_makeFunction (mg := X.mg) (c := c) (P := P) (ps := ps) (closure_ok hfree) I.ok.glob (I.mod.glob.keeps I.bk) hcode (TB.code.keeps I.bk) hP' ht hc TB.gP bP fun c' ctv h' tk hx hge hlt hrec htb => ?_
    obtain ⟨c2, oc, vs, t, e2, hoc, hd, hv⟩ := hrec
    cases e2
    have nC : H c' = none := I.hok.fresh hge
    have I1 := inv_table (t' := tk) (more := #[rawInt pos.line, rawInt pos.col, .ref c']) (h' := h') I hP (fun b o hb e => hx b o hb e) htb hge ⟨oc, vs, t, hoc, hd, hv⟩
    have hE : Ex H (upd (upd H P (.tbl (ps ++ #[rawInt pos.line, rawInt pos.col, .ref c']))) c' (CodeO c' (X.env.qual ++ "<lambda>"))) := by
      refine ⟨fun b o e n => ?_, fun b qs e => ?_⟩
      · have nb : b ≠ P := fun z => by rw [z, hP] at e; cases e; cases n
        rw [upd_ne (ne_of_none e nC), upd_ne nb]; exact e
      · rw [upd_ne (ne_of_none e nC)]
        by_cases nb : b = P
        · subst nb; exact ⟨_, upd_same⟩
        · rw [upd_ne nb]; exact ⟨_, e⟩
    have eL : (ps ++ #[rawInt pos.line, rawInt pos.col, .ref c']).toList = ps.toList ++ [rawInt pos.line, rawInt pos.col, .ref c'] := by simp
    have T1 : Tabs Tabl.T (upd (upd H P (.tbl (ps ++ #[rawInt pos.line, rawInt pos.col, .ref c']))) c' (CodeO c' (X.env.qual ++ "<lambda>"))) := fun p hp => by
      by_cases hb : p.1 = P
      · rw [hu p hp hb, hb]
        refine ⟨_, by rw [upd_ne (ne_of_none hP nC), upd_same], by rw [eL]; exact PySem.TriplesOk_snoc _ _ _ _ ht, fun p' cv hcv => ?_⟩
        rw [eL] at hcv
        rcases among_app _ ht hcv with z | z
        · obtain ⟨c0, e1, e2⟩ := ha p' cv z
          exact ⟨c0, e1, hE.get e2⟩
        · exact ⟨c', z, upd_same⟩
      · obtain ⟨ps', a1, a2, a3⟩ := hT p hp
        refine ⟨ps', by rw [upd_ne (ne_of_none a1 nC), upd_ne hb]; exact a1, a2, fun p' cv hcv => ?_⟩
        obtain ⟨c0, e1, e2⟩ := a3 p' cv hcv
        exact ⟨c0, e1, hE.get e2⟩
    have nF := I1.hok.fresh (Nat.le_refl _)
    have I2 := inv_lm (F := ⟨X.env.qual ++ "<lambda>", params, body, scope, cloFrom X.env.cells scope.names [], c'⟩) (t' := tk) (pm := (X.mg "__name__").getD .none) (ctv := ctv) I1 rfl
    refine h h'.objs.size c' _ _ I2 (hE.trans (.new nF)) (T1.ext (new_full nF)) (I.hok.fresh (Nat.le_trans hge (Nat.le_of_lt hlt))) upd_same ?_
    exact (upd_ne (Nat.ne_of_lt hlt)).trans upd_same
  | some cv =>
    obtain ⟨c', e, hco⟩ := ha pos cv hc
    subst e
    refine PySem.W.kla_makeFunctionHit (mg := X.mg) (c := c) (P := P) (ps := ps) (closure_ok hfree) I.ok.glob (I.mod.glob.keeps I.bk) hcode (TB.code.keeps I.bk) hP' ht hc bP fun ctv h' tk hx hsz => ?_
    have I1 : Inv X pins σ H { s with heap := h', toks := tk } := I.kept hx
    have nF : H h'.objs.size = none := I1.hok.fresh (Nat.le_refl _)
    have I2 := inv_lm (F := ⟨X.env.qual ++ "<lambda>", params, body, scope, cloFrom X.env.cells scope.names [], c'⟩) (t' := tk) (pm := (X.mg "__name__").getD .none) (ctv := ctv) I1 rfl
    exact h h'.objs.size c' _ _ I2 (.new nF) (hT.ext (new_full nF)) nF upd_same ((upd_ne (ne_of_none hco nF)).trans hco)
end
/-- the lambda called -/
theorem lm_run {CX : CXT} {P : Program} {w : World} {K : PySem.W.Frag} {mg : Str → Option Value} {base : Heap} {N ps fr : List Str} {F : Lm} {f : Addr} {k : Nat} {A : Around} {outer : List PySem.Env} {s : Shared} {H : Hp} {us : List Value} {vs : List V} {ws : List (Option V)} {Q : VK} {E : XK}
    (S : NScope N ps fr F.scope) (hb : ∀ (pm ctv : Value), bindArgs (F.fd pm ctv) ⟨us, []⟩ = pure (ps.zip us)) (hl : vs.length = ps.length) (hr : Room (k + 1) A) (e0 : Env0 P w K mg base A outer s H) (hf : H f = some (LmO f F)) (hc : H F.c = some (CodeO F.c F.qual)) (C : CellsAt F.cl fr ws s.heap H) (r : Vals vs us)
    (hbody : Room k (A.deeper (envF F.nf f s.heap.objs.size)) → WE (ncx CX P w K mg base N F.nf f A outer s H E) F.body (startF N vs ws) H Q) :
    codeAny (model P w) A (.call (.ref f) ⟨us, []⟩) (CR CX outer P w H s Q E) s := by
  have lim : s.heap.NoLimit := e0.mod.nolimit.keeps fun b o e => (e0.bs b o e).1
  obtain ⟨⟨pm, ctv, ho⟩, _, _⟩ := e0.hok _ _ hf
  obtain ⟨⟨oc, vs', t, hoc, hdc, hvc⟩, _, _⟩ := e0.hok _ _ hc
  refine PySem.W.kla_callFunE hr.depth ho rfl S.co S.gen rfl ⟨F.c, oc, vs', t, rfl, hoc, hdc, hvc⟩ ?_
  rw [hb pm ctv]
  refine wpAny_pure (wpAny_newFunctionEnv S.nocell (fun ⟨n, _⟩ hy => S.par n (List.of_mem_zip hy).1) (fun h₁ hns hsb => ⟨lim.fresh _ hsb, ?_⟩) S.kind)
  show codeAny _ _ (.expr F.body (envF F.nf f s.heap.objs.size)) _ _
  have kp : ∀ b o, s.heap.get? b = some o → h₁.get? b = some o := fun b o e => hsb.extBut b o (Nat.ne_of_lt (Heap.lt_size e)) (Heap.get?_push_of_some _ e)
  have J : Inv (ncx CX P w K mg base N F.nf f A outer s H E) [] (startF N vs ws) H { s with heap := h₁, toks := s.toks + (ps.zip us).length } := inv_startN S hr.hd e0 hl r C hns kp
  refine PySem.W.kla_codeExpr (wpAny_mono (hbody (hr.deeper _) [] _ J) (fun v s' hq => ?_) fun e s' hq => hq)
  obtain ⟨w', H', J', rv, q⟩ := hq
  exact ⟨w', H', J'.os, J'.bare, J'.base, J'.hok, rv, q⟩
end PV

set_option Elab.async false
set_option linter.all false
set_option maxRecDepth 100000
set_option maxHeartbeats 2000000
/-! PV, part Jf: sorted by whole numbers. -/
namespace PV
open PySem PySem.Spec PyProof.Rows L2 LamX NdefX SrtO
section
variable {α : Type} {lt : α → α → Bool}
theorem eqv_refl (O : Swo lt) (x : α) : eqv lt x x = true := eqv_iff.mpr ⟨O.refl x, O.refl x⟩
theorem stb_unique (O : Swo lt) : ∀ {l m : List α}, Srtd lt l → Srtd lt m → (∀ x, l.filter (eqv lt x) = m.filter (eqv lt x)) → l = m
  | [], [], _, _, _ => rfl
  | [], b :: m, _, _, h => by
    have := h b
    rw [List.filter_nil, List.filter_cons, if_pos (eqv_refl O b)] at this
    cases this
  | a :: l, [], _, _, h => by
    have := h a
    rw [List.filter_nil, List.filter_cons, if_pos (eqv_refl O a)] at this
    cases this
  | a :: l, b :: m, h1, h2, h => by
    have ha : a ∈ b :: m := by
      have : a ∈ (b :: m).filter (eqv lt a) := by rw [← h a]; exact List.mem_filter.mpr ⟨List.mem_cons_self, eqv_refl O a⟩
      exact (List.mem_filter.mp this).1
    have hb : b ∈ a :: l := by
      have : b ∈ (a :: l).filter (eqv lt b) := by rw [h b]; exact List.mem_filter.mpr ⟨List.mem_cons_self, eqv_refl O b⟩
      exact (List.mem_filter.mp this).1
    have e1 : lt a b = false := by
      rcases List.mem_cons.mp ha with rfl | q
      · exact O.refl _
      · exact srtd_head h2 a q
    have e2 : lt b a = false := by
      rcases List.mem_cons.mp hb with rfl | q
      · exact O.refl _
      · exact srtd_head h1 b q
    have ea : a = b := by
      have := h a
      rw [List.filter_cons, List.filter_cons, if_pos (eqv_refl O a), if_pos (eqv_iff.mpr ⟨e1, e2⟩)] at this
      exact (List.cons.inj this).1
    subst ea
    have ih := stb_unique O (List.pairwise_cons.mp h1).2 (List.pairwise_cons.mp h2).2 fun x => by
      have := h x
      rw [List.filter_cons, List.filter_cons] at this
      split at this
      · exact (List.cons.inj this).2
      · exact this
    rw [ih]
end
section
variable {α : Type}
def ltP (p q : Int × α) : Bool := decide (p.1 < q.1)
theorem swo_ltP : Swo (ltP (α := α)) := ⟨fun x y h => by unfold ltP at *; simp at *; omega, fun x y z h g => by unfold ltP at *; simp at *; omega⟩
theorem insK_cls (z x : Int × α) : ∀ l : List (Int × α), (insK x l).filter (eqv ltP z) = (x :: l).filter (eqv ltP z)
  | [] => rfl
  | y :: r => by
    unfold insK
    split
    · rfl
    · rename_i q
      have ih := insK_cls z x r
      rw [List.filter_cons, ih, List.filter_cons, List.filter_cons, List.filter_cons]
      by_cases h1 : eqv ltP z x = true
      · have h2 : ¬ eqv ltP z y = true := fun h2 => by
          obtain ⟨a1, a2⟩ := eqv_iff.mp h1
          obtain ⟨b1, b2⟩ := eqv_iff.mp h2
          unfold ltP at a1 a2 b1 b2
          simp at a1 a2 b1 b2
          omega
        rw [if_neg h2, if_neg h2]
      · rw [if_neg h1, if_neg h1]
theorem sortK_cls (z : Int × α) : ∀ l : List (Int × α), (sortK l).filter (eqv ltP z) = l.filter (eqv ltP z)
  | [] => rfl
  | x :: r => by
    unfold sortK
    rw [insK_cls, List.filter_cons, List.filter_cons, sortK_cls z r]
theorem insK_perm (x : Int × α) : ∀ l : List (Int × α), (insK x l).Perm (x :: l)
  | [] => .refl _
  | y :: r => by
    unfold insK
    split
    · exact .refl _
    · exact ((insK_perm x r).cons y).trans (.swap _ _ _)
theorem sortK_perm : ∀ l : List (Int × α), (sortK l).Perm l
  | [] => .refl _
  | x :: r => (insK_perm x _).trans ((sortK_perm r).cons x)
theorem insK_pw (x : Int × α) : ∀ l : List (Int × α), l.Pairwise (fun a b => a.1 ≤ b.1) → (insK x l).Pairwise fun a b => a.1 ≤ b.1
  | [], _ => List.pairwise_singleton _ _
  | y :: r, h => by
    unfold insK
    rw [List.pairwise_cons] at h
    split
    · rename_i q
      refine List.pairwise_cons.mpr ⟨fun z hz => ?_, List.pairwise_cons.mpr h⟩
      rcases List.mem_cons.mp hz with rfl | hz
      · exact q
      · exact Int.le_trans q (h.1 z hz)
    · rename_i q
      refine List.pairwise_cons.mpr ⟨fun z hz => ?_, insK_pw x r h.2⟩
      rcases List.mem_cons.mp ((insK_perm x r).mem_iff.mp hz) with rfl | hz
      · omega
      · exact h.1 z hz
theorem sortK_pw : ∀ l : List (Int × α), (sortK l).Pairwise fun a b => a.1 ≤ b.1
  | [] => .nil
  | x :: r => insK_pw x _ (sortK_pw r)
theorem sortK_srtd (l : List (Int × α)) : Srtd ltP (sortK l) := (sortK_pw l).imp fun {a b} h => by unfold ltP; simpa using h
end
/-- what the sort's machine left -/
theorem keyed_out {O P0 : List Keyed} {keys : List Value} {kz : List Int} {vs : List Value} (hk : IntsAre keys kz) (hP : P0 = keys.zip vs) (h1 : Srtd (lt2 ltIv) O) (h2 : Stb (lt2 ltIv) O P0) : O.map (·.2) = (sortK (kz.zip vs)).map (·.2) := by
  have e0 : P0.map (fun p : Keyed => (iv p.1, p.2)) = kz.zip vs := by
    rw [hP]
    have go : ∀ {keys : List Value} {kz : List Int}, IntsAre keys kz → ∀ vs : List Value, (keys.zip vs).map (fun p : Keyed => (iv p.1, p.2)) = kz.zip vs := by
      intro keys kz h
      induction h with
      | nil => intro vs; rfl
      | cons n t _ ih => intro vs; cases vs with
        | nil => rfl
        | cons v r => rw [List.zip_cons_cons, List.map_cons, ih r]; rfl
    exact go hk vs
  have f : ∀ (z : Int × Value) (l : List Keyed), (l.map (fun p : Keyed => (iv p.1, p.2))).filter (eqv ltP z) = (l.filter (eqv (lt2 ltIv) (Value.int z.1 0, z.2))).map (fun p : Keyed => (iv p.1, p.2)) := fun z l => by
    rw [List.filter_map] <;> rfl
  have e : O.map (fun p : Keyed => (iv p.1, p.2)) = sortK (kz.zip vs) := stb_unique swo_ltP (List.pairwise_map.mpr h1) (sortK_srtd _) fun z => by
    rw [sortK_cls, ← e0, f, f, h2.cls]
  rw [← e, List.map_map]
  rfl
section
variable {P : Program} {w : World} {A : Around} {E : Value → Shared → Prop} {z : Shared} {a kS : Addr} {vs : List Value} {kz : List Int} {keys : Array Value} {e e1 : Nat} {R : PySem.Fin → Shared → Prop}
theorem ksort_tail {st : SortSt} (nk : z.heap.get? kS = some (seqObj "list" keys e)) (na : z.heap.get? a = some (seqObj "list" #[] e1)) (hka : kS ≠ a) (hks : keys.size ≤ sizeLine) (ho : ((arrOf st).map (·.2)).size ≤ sizeLine) (hf : failedOf st = none)
    (h : R (.done (.ret .none)) { z with heap := (z.heap.update kS (Obj.mapSeq fun _ => (#[] : Array Value))).update a (Obj.mapSeq fun _ => (arrOf st).map (·.2)) }) : wpAny (model P w) A (ksk_tail a false e1 (.ref kS) st) R E z := by
  have s1 := Heap.SameBut.update z.heap kS (Obj.mapSeq fun _ => (#[] : Array Value))
  have n1 : (z.heap.update kS (Obj.mapSeq fun _ => (#[] : Array Value))).get? a = some (seqObj "list" #[] e1) := (s1.2 a hka.symm).trans na
  unfold ksk_tail
  try dsimp only
  refine wpAny_bind (listUpdate_at nk rfl ?_ hks (Nat.zero_le _))
  refine wpAny_bind (wpAny_letGo ?_)
  refine wpAny_bind (seqEpoch_at n1 rfl ?_)
  refine wpAny_bind (listUpdate_at n1 rfl ?_ (Nat.zero_le _) (by simp only [Bool.false_eq_true, if_false]; omega))
  rw [hf]
  simp only [bne_self_eq_false, Bool.false_eq_true, if_false]
  exact wpAny_pure h
theorem ksort_end (nk : z.heap.get? kS = some (seqObj "list" keys e)) (na : z.heap.get? a = some (seqObj "list" #[] e1)) (hka : kS ≠ a) (hk : IntsAre keys.toList kz) (hlen : kz.length = vs.length) (hz : vs.length ≤ sizeLine)
    (h : R (.done (.ret .none)) { z with heap := (z.heap.update kS (Obj.mapSeq fun _ => (#[] : Array Value))).update a (Obj.mapSeq fun _ => ((sortK (kz.zip vs)).map (·.2)).toArray) }) : wpAny (model P w) A (ksk_end a false vs.toArray e1 (.ref kS) keys) R E z := by
  have hsz : keys.size = vs.length := by
    have q := hk.length
    rw [Array.length_toList] at q
    omega
  have hzs : (keys.zip vs.toArray).size = vs.length := by rw [Array.size_zip, hsz, List.size_toArray, Nat.min_self]
  have fin : ∀ st : SortSt, Srtd (lt2 ltIv) (arrOf st).toList → Stb (lt2 ltIv) (arrOf st).toList (keys.zip vs.toArray).toList → failedOf st = none → wpAny (model P w) A (ksk_tail a false e1 (.ref kS) st) R E z := fun st q1 q2 q3 => by
    have ho := keyed_out hk (ksk_zip keys vs) q1 q2
    have ha : (arrOf st).map (·.2) = ((sortK (kz.zip vs)).map (·.2)).toArray := by
      rw [← ho]; apply Array.ext'; simp
    have hl := q2.len
    rw [Array.length_toList, Array.length_toList, hzs] at hl
    refine ksort_tail nk na hka (by omega) (by rw [Array.size_map]; omega) q3 ?_
    rw [ha]; exact h
  unfold ksk_end
  try dsimp only
  rw [if_neg Bool.false_ne_true, if_neg Bool.false_ne_true]
  by_cases h2 : vs.toArray.size < 2
  · rw [if_pos h2, if_pos h2]
    refine wpAny_bind (wpAny_pure ?_)
    rw [StateT.run_pure]
    refine wpAny_bind (wpAny_pure ?_)
    try dsimp only
    refine fin (SortSt.mk' general' (keys.zip vs.toArray) #[] 7 none) ?_ (Stb.refl _) rfl
    show Srtd (lt2 ltIv) (keys.zip vs.toArray).toList
    have hl : (keys.zip vs.toArray).toList.length < 2 := by rw [Array.length_toList, hzs]; simpa using h2
    match (keys.zip vs.toArray).toList, hl with
    | [], _ => exact List.Pairwise.nil
    | [v], _ => exact List.pairwise_singleton _ _
    | _ :: _ :: l, q => exact absurd q (by rw [List.length_cons, List.length_cons]; omega)
  · rw [if_neg h2, if_neg h2]
    rw [List.size_toArray] at h2
    rw [ksk_kind hk (by rw [hsz]; omega)]
    refine wpAny_bind (wpAny_pure ?_)
    have hall : AllL (fun p : Keyed => p.1 ∈ keys.toList) (keys.zip vs.toArray).toList := fun p hm => by
      rw [ksk_zip] at hm
      obtain ⟨x, y⟩ := p
      exact (List.of_mem_zip hm).1
    refine wpAny_bind (wpAny_mono (wpS_sortO (st0 := SortSt.mk' oneType' (keys.zip vs.toArray) #[] 7 none)
      (Q := fun _ st' => Srtd (lt2 ltIv) (arrOf st').toList ∧ Stb (lt2 ltIv) (arrOf st').toList (keys.zip vs.toArray).toList ∧ failedOf st' = none) (swo2 swo_int) (int_cmp hk) rfl hall rfl rfl fun st' a1 a2 a3 => ⟨a1, a2, a3⟩) ?_ fun _ _ e => e)
    rintro ⟨⟨⟩, st'⟩ s' ⟨rfl, hp1, hp2, hf⟩
    try dsimp only
    exact fin st' hp1 hp2 hf
end
end PV

set_option Elab.async false
set_option linter.all false
set_option maxRecDepth 100000
set_option maxHeartbeats 2000000
/-! PV, part Jg: sorted(d, key=lambda x: ..). -/
namespace PV
open PySem PySem.Spec PyProof.Rows L2 LamX NdefX SrtO
variable [Tabl]
/-! ### sorted lists that go together -/
theorem insK_map {α β : Type} (g : α → β) (x : Int × α) : ∀ l : List (Int × α), insK (x.1, g x.2) (l.map fun p => (p.1, g p.2)) = (insK x l).map fun p => (p.1, g p.2)
  | [] => rfl
  | y :: r => by
    simp only [List.map_cons, insK]
    split
    · rfl
    · rw [List.map_cons, insK_map g x r]
theorem sortK_map {α β : Type} (g : α → β) : ∀ l : List (Int × α), sortK (l.map fun p => (p.1, g p.2)) = (sortK l).map fun p => (p.1, g p.2)
  | [] => rfl
  | x :: r => by
    simp only [List.map_cons, sortK]
    rw [sortK_map g r, insK_map]
theorem zip_idx {α : Type} (d : α) : ∀ (kz : List Int) (vs : List α) (m : Nat), kz.length = vs.length → kz.zip vs = (kz.zip (List.range' m vs.length)).map fun p => (p.1, vs.getD (p.2 - m) d)
  | [], [], _, _ => rfl
  | [], _ :: _, _, h => by simp at h
  | _ :: _, [], _, h => by simp at h
  | k :: kz, v :: vs, m, h => by
    have ih := zip_idx d kz vs (m + 1) (by simpa using h)
    rw [List.zip_cons_cons, List.length_cons, List.range'_succ, List.zip_cons_cons, List.map_cons, ih]
    congr 1
    · simp
    · refine List.map_congr_left fun p hp => ?_
      have h1 := (List.of_mem_zip (show (p.1, p.2) ∈ _ from hp)).2
      rw [List.mem_range'_1] at h1
      have e : p.2 - m = (p.2 - (m + 1)) + 1 := by omega
      rw [e]; rfl
def ordK (kz : List Int) (n : Nat) : List Nat := (sortK (kz.zip (List.range' 0 n))).map (·.2)
theorem ordK_lt {kz : List Int} {n : Nat} : ∀ i ∈ ordK kz n, i < n := fun i hi => by
  obtain ⟨p, hp, rfl⟩ := List.mem_map.mp hi
  have := (List.of_mem_zip (show (p.1, p.2) ∈ _ from (sortK_perm _).mem_iff.mp hp)).2
  rw [List.mem_range'_1] at this
  omega
theorem sortK_idx {α : Type} (d : α) {kz : List Int} {vs : List α} (h : kz.length = vs.length) : (sortK (kz.zip vs)).map (·.2) = (ordK kz vs.length).map fun i => vs.getD i d := by
  have e := sortK_map (fun i => vs.getD (i - 0) d) (kz.zip (List.range' 0 vs.length))
  rw [zip_idx d kz vs 0 h, e]
  unfold ordK
  rw [List.map_map, List.map_map]
  rfl
theorem vals_map {f : Nat → V} {g : Nat → Value} : ∀ {l : List Nat}, (∀ i ∈ l, RelV (f i) (g i)) → Vals (l.map f) (l.map g)
  | [], _ => .nil
  | i :: r, h => .cons (h i List.mem_cons_self) (vals_map fun j hj => h j (List.mem_cons_of_mem _ hj))
theorem dats_map {K : PySem.W.Frag} {F : Hp} {f : Nat → V} {g : Nat → D} : ∀ {l : List Nat}, (∀ i ∈ l, Dat K F (f i) (g i)) → Dats K F (l.map f) (l.map g)
  | [], _ => .nil
  | i :: r, h => .cons (h i List.mem_cons_self) (dats_map fun j hj => h j (List.mem_cons_of_mem _ hj))
theorem getD_of {α : Type} {l : List α} {i : Nat} {x d : α} (h : l[i]? = some x) : l.getD i d = x := by rw [List.getD_eq_getElem?_getD, h]; rfl

section
variable {X : Cx} {pins : List (Addr × Obj)} {σ : L2.St}
/-- list.sort(key = the lambda), the list and the keys' list just laid -/
theorem lsort_run {F : Lm} {f la kS : Addr} {od : Obj} {e1 lvl : Nat} {N fr : List Str} {js : List Nat} {pn : Str} {xs : List Str} {kz : List Int} {us : List Value} {Fz H0 H : Hp} {s : Shared} {R : PySem.Fin → Shared → Prop} {E : Value → Shared → Prop}
    (S : NScope N [pn] fr F.scope) (hb : ∀ (u pm ctv : Value), bindArgs (F.fd pm ctv) ⟨[u], []⟩ = pure [(pn, u)]) (cp : X.Ok → Caps X F.cl fr js) (hr : Room (lvl + 3) X.A) (hod : od = seqObj "list" #[] e1)
    (hlen : kz.length = xs.length) (hsz : xs.length < 64) (hus : StrsAre us xs) (hka : kS ≠ la) (h0a : H0 la = none) (h0k : H0 kS = none) (hnf : ∀ o' u', X.H_0 la ≠ some (.frz o' u'))
    (hf : H0 f = some (LmO f F)) (hc : H0 F.c = some (CodeO F.c F.qual)) (I : Inv X pins σ H s) (st : Stp Fz H0 Fz H) (hla : H la = some (.frz od (.lst []))) (fla : Fz la = none) (hkS : H kS = some (.lst [])) (fkS : Fz kS = none)
    (turn : ∀ (i : Nat) (x : Str) (k : Int), xs[i]? = some x → kz[i]? = some k → ∀ (A : Around) (s : Shared) (H : Hp), Room lvl (A.deeper (envF F.nf f s.heap.objs.size)) → EvZ (ncx L2.CX0 X.prog X.w X.K X.mg X.base N F.nf f A X.stack s H L2.E0) F.body (startF N [.str x] (js.map (slotAt σ))) Fz (.int k))
    (fin : ∀ (s' : Shared) (F' H' : Hp), Stp Fz H0 F' H' → Inv X pins σ (upd H' la (.lst ((ordK kz xs.length).map fun i => V.str (xs.getD i Str.empty)))) s' → F' la = none → H' la = some (.lst []) → R (.done (.ret .none)) s') :
    wpAny (model X.prog X.w) X.A.in1.in1 (ksk_rest la (.ref f) false us.toArray e1 (.ref kS)) R E s := by
  have hul : us.length = xs.length := hus.length
  unfold ksk_rest
  refine wpAny_bind (wpAny_rule ?_)
  first
    | rw [List.forIn_toArray]
    | (rw [← Array.forIn_toList]; simp only [List.toList_toArray])
    | rw [← Array.forIn_toList]
  refine wpAny_bind (ksk_fold (fun i s' => ∃ F' H', Stp Fz H0 F' H' ∧ Inv X pins σ H' s' ∧ H' la = some (.frz od (.lst [])) ∧ F' la = none ∧ H' kS = some (.lst ((kz.take i).map V.int)) ∧ F' kS = none) us 0 s ⟨Fz, H, st, I, hla, fla, by simpa using hkS, fkS⟩ ?step ?done)
  case step =>
    rintro j u s' hx ⟨F', H', st', I', hla', fla', hkS', fkS'⟩
    simp only [Nat.zero_add] at hkS' ⊢
    have hj : j < us.length := (List.getElem?_eq_some_iff.mp hx).1
    obtain ⟨k, hkj⟩ : ∃ k, kz[j]? = some k := ⟨_, List.getElem?_eq_getElem (by omega)⟩
    obtain ⟨x, hxj⟩ : ∃ x, xs[j]? = some x := ⟨_, List.getElem?_eq_getElem (by omega)⟩
    have ru : RelV (.str x) u := by
      obtain ⟨t, e⟩ := SS.strs_at hus j u hx
      rw [getD_of hxj] at e
      exact ⟨t, e⟩
    have run : wpAny (model X.prog X.w) X.A.in1.in1 (call (.ref f) [u]) (EP X pins σ fun v H'' => ∃ F'', Stp F' H' F'' H'' ∧ v = .int k) (fun _ _ => False) s' := by
      have rc := lm_run (CX := L2.CX0) (E := L2.E0) (A := X.A.in1.in1) (outer := X.stack) (s := s') (H := H') (us := [u]) (vs := [.str x]) (ws := js.map (slotAt σ)) (Q := fun v H'' => ∃ F'', Stp F' H' F'' H'' ∧ v = .int k) (k := lvl) S (fun pm ctv => hb u pm ctv) rfl hr.in1.in1 I'.env0.in1.in1 (st'.hh.get hf) (st'.hh.get hc) (cells_of I' (cp I'.ok)) (.cons ru .nil) fun hroom => by
        refine turn j x k hxj hkj _ s' H' hroom F' H' st'.ff st'.fh _ fun v F'' H'' st'' dv => ⟨F'', st'', ?_⟩
        cases dv; rfl
      refine wpAny_call (codeAny_mono rc fun r s2 hq => ?_)
      cases r with
      | error e => exact hq
      | ok fl =>
        cases fl with
        | ret v => exact I'.after hq
        | next => exact hq
        | brk => exact hq
        | cont => exact hq
    refine wpAny_bind (wpAny_attempt (wpAny_mono run (fun v s2 he => ?_) fun _ _ hF => hF.elim))
    obtain ⟨w', H2, I2, rv, F2, st2, rfl⟩ := he
    obtain ⟨tk, rfl⟩ := rv
    try dsimp only
    have sA := st'.trans st2
    have hk2 : H2 kS = some (.lst ((kz.take j).map V.int)) := st2.hh.get hkS'
    have hl2 : H2 la = some (.frz od (.lst [])) := st2.hh.get hla'
    have fk2 : F2 kS = none := st2.lse fkS' (by rw [hkS']; exact fun z => nomatch z)
    have fl2 : F2 la = none := st2.lse fla' (by rw [hla']; exact fun z => nomatch z)
    obtain ⟨hz, its, n, r, hg⟩ := (show ObjOk X.prog X.w H2 s2.heap kS (.lst ((kz.take j).map V.int)) from I2.hok _ _ hk2)
    have hit : its.length = j := by rw [← r.length, List.length_map, List.length_take]; omega
    have sb := Heap.SameBut.update s2.heap kS (Obj.mapSeq (·.push (.int k tk)))
    obtain ⟨c2, hc2⟩ : ∃ c2, (s2.heap.update kS (Obj.mapSeq (·.push (.int k tk)))).get? kS = some (seqObj "list" (its.toArray.push (.int k tk)) c2) := ⟨_, get?_update_seq hg (·.push (.int k tk))⟩
    have hsl : (sizeLine : Nat) = sizeLine := rfl
    have big : 100 ≤ sizeLine := by decide
    refine wpAny_bind (listUpdate_at hg rfl ?_ (by rw [List.size_toArray, hit]; omega) (Nat.le_trans (Nat.le_of_eq (Array.size_push ..)) (by rw [List.size_toArray, hit]; omega)))
    have ek : (kz.take (j + 1)).map V.int = (kz.take j).map V.int ++ [V.int k] := by rw [List.take_add_one, hkj]; simp
    refine wpAny_pure ⟨rfl, F2, upd H2 kS (.lst ((kz.take (j + 1)).map V.int)), sA.updD fk2 h0k hk2, I2.write (t' := s2.toks) (by rw [hk2]; exact True.intro) (.inl rfl) (fun b o hb e => (sb.2 b hb).trans e) ⟨_, hc2⟩ ⟨?_, its ++ [.int k tk], c2, ?_, ?_⟩, by rw [upd_ne hka.symm]; exact hl2, fl2, upd_same, fk2⟩
    · rw [List.length_map, List.length_take]; omega
    · rw [ek]; exact r.append (.cons ⟨tk, rfl⟩ .nil)
    · rw [hc2]; simp [seqObj]
  case done =>
    rintro s' ⟨F', H', st', I', hla', fla', hkS', fkS'⟩
    have e3 : kz.take (0 + us.length) = kz := List.take_of_length_le (by omega)
    rw [e3] at hkS'
    obtain ⟨hz, its, n, r, hg⟩ := (show ObjOk X.prog X.w H' s'.heap kS (.lst (kz.map V.int)) from I'.hok _ _ hkS')
    obtain ⟨ho, _⟩ := (show ObjOk X.prog X.w H' s'.heap la (.frz od (.lst [])) from I'.hok _ _ hla')
    rw [hod] at ho
    try dsimp only
    refine wpAny_bind (listItems_at hg rfl ?_)
    have hI : IntsAre its.toArray.toList kz := by simpa using RZ.intsAre_vals r
    refine ksort_end (e := n) (vs := us) hg ho hka hI (by omega) (by have : 100 ≤ sizeLine := by decide
                                                                     omega) ?_
    have sb1 := Heap.SameBut.update s'.heap kS (Obj.mapSeq fun _ => (#[] : Array Value))
    obtain ⟨c1, hc1⟩ : ∃ c1, (s'.heap.update kS (Obj.mapSeq fun _ => (#[] : Array Value))).get? kS = some (seqObj "list" #[] c1) := ⟨_, get?_update_seq hg (fun _ => #[])⟩
    have I1 : Inv X pins σ (upd H' kS (.lst [])) { s' with heap := s'.heap.update kS (Obj.mapSeq fun _ => (#[] : Array Value)), toks := s'.toks } := I'.write (by rw [hkS']; exact True.intro) (.inl rfl) (fun b o hb e => (sb1.2 b hb).trans e) ⟨_, hc1⟩ ⟨Nat.zero_le _, [], c1, .nil, hc1⟩
    have I2 := I1.unlock (d := la) (u := .lst []) (od := od) (by rw [upd_ne hka.symm]; exact hla') hnf
    have ho1 : (s'.heap.update kS (Obj.mapSeq fun _ => (#[] : Array Value))).get? la = some (seqObj "list" #[] e1) := (sb1.2 la hka.symm).trans ho
    have sb2 := Heap.SameBut.update (s'.heap.update kS (Obj.mapSeq fun _ => (#[] : Array Value))) la (Obj.mapSeq fun _ => ((sortK (kz.zip us)).map (·.2)).toArray)
    obtain ⟨c2, hc2⟩ : ∃ c2, ((s'.heap.update kS (Obj.mapSeq fun _ => (#[] : Array Value))).update la (Obj.mapSeq fun _ => ((sortK (kz.zip us)).map (·.2)).toArray)).get? la = some (seqObj "list" ((sortK (kz.zip us)).map (·.2)).toArray c2) := ⟨_, get?_update_seq ho1 (fun _ => ((sortK (kz.zip us)).map (·.2)).toArray)⟩
    have s3 : Stp Fz H0 F' (upd (upd H' kS (.lst [])) la (.lst [])) := (st'.updD fkS' h0k hkS').updD fla' h0a (by rw [upd_ne hka.symm]; exact hla')
    refine fin _ F' _ s3 (I2.write (t' := s'.toks) (by rw [upd_same]; exact True.intro) (.inl rfl) (fun b o hb e => (sb2.2 b hb).trans e) ⟨_, hc2⟩ ⟨?_, (sortK (kz.zip us)).map (·.2), c2, ?_, hc2⟩) fla' upd_same
    · rw [List.length_map]
      unfold ordK
      rw [List.length_map, (sortK_perm _).length_eq, List.length_zip, List.length_range']
      have : 100 ≤ sizeLine := by decide
      omega
    · rw [sortK_idx Value.none (by omega), hul]
      refine vals_map fun i hi => ?_
      have hlt := ordK_lt i hi
      obtain ⟨u, hu⟩ : ∃ u, us[i]? = some u := ⟨_, List.getElem?_eq_getElem (by omega)⟩
      obtain ⟨t, e⟩ := SS.strs_at hus i u hu
      rw [getD_of hu]
      exact ⟨t, e⟩
end
end PV

set_option Elab.async false
set_option linter.all false
set_option maxRecDepth 100000
set_option maxHeartbeats 2000000
/-! PV, part Jh: sorted(d, key=lambda x: ..), the whole. -/
namespace PV
open PySem PySem.Spec PyProof.Rows L2 LamX NdefX SrtO
variable [Tabl]
section
variable {X : Cx} {a body : Expr} {σ : L2.St} {F : Hp} {kvs : List (Key × D)} {xs : List Str} {kz : List Int} {params : Arguments} {scope : Scope} {lpos kpos p pos : Pos} {N fr : List Str} {js : List Nat} {pn : Str} {lvl : Nat} {c P : Addr}
theorem ev_sortk (hcalm : X.calm = true) (hg : Gl X "sorted") (hm : X.mg "sorted" = none) (na : Pl X a) (hr : Room (lvl + 3) X.A) (TB : TabB X.base X.mg c P) (hcode : X.env.code = .ref c) (hmT : (P, X.env.qual ++ "<lambda>") ∈ Tabl.T) (hu : ∀ p ∈ Tabl.T, p.1 = P → p.2 = X.env.qual ++ "<lambda>")
    (hdef : defaultsOf params X.env = ([], [])) (S : NScope N [pn] fr scope) (hb : ∀ (q : Str) (cl : List (Str × Addr)) (cv u pm ctv : Value), bindArgs (PySem.W.kla_fn "<lambda>" q params body scope cl pm cv ctv) ⟨[u], []⟩ = pure [(pn, u)])
    (hfree : ∀ y ∈ scope.names, y.2 = .free → X.env.scope.names.lookup y.1 = some .cell ∨ X.env.scope.names.lookup y.1 = some .free) (hfr : ∀ y ∈ fr, (y, NameKind.free) ∈ scope.names) (hjs : js.map (fun j => X.N[j]?) = fr.map some)
    (ha : EvZ X a σ F (.dic kvs)) (hx : keyStrs kvs = some xs) (hl : xs.length < 64) (hlen : kz.length = xs.length)
    (turn : ∀ (i : Nat) (x : Str) (k : Int), xs[i]? = some x → kz[i]? = some k → ∀ (F' : NF) (f : Addr) (A : Around) (s : Shared) (H : Hp), F'.scope = scope → F'.qual = X.env.qual ++ "<lambda>" → Room lvl (A.deeper (envF F' f s.heap.objs.size)) → EvZ (ncx L2.CX0 X.prog X.w X.K X.mg X.base N F' f A X.stack s H L2.E0) body (startF N [.str x] (js.map (slotAt σ))) F (.int k)) :
    EvD X (.Call (.Name "sorted" p) [a] [⟨some "key", .Lambda params body scope lpos, kpos⟩] pos) σ F 1 (.lst ((sortK (kz.zip (xs.map D.str))).map (·.2))) := by
  intro F1 H e1 e2 Q q pins s I
  have hfree' : ∀ y ∈ scope.names, y.2 = .free → ∃ c, X.env.cells.lookup y.1 = some c := fun y hy e => (hfree y hy e).elim (fun z => I.ok.has _ (.inl z)) fun z => I.ok.has _ (.inr z)
  refine wpAny_Call_Name_kw (ld_blt I hg hm boot_sorted ?_ (by decide) (by decide))
  refine callWith_kw ?_ (by rw [na []]; rfl) (by rw [na []]; rfl) rfl rfl
  refine thn ((ea_cons ha ea_nil (na [])) F1 H e1 e2 (fun vs H2 => ∃ F2, Stp F1 H F2 H2 ∧ Dats X.K F2 vs [.dic kvs]) (fun vs F2 H2 st dv => ⟨F2, st, dv⟩) pos pins s I) fun us s1 ⟨vs, H1, I1, r1, F2, st, dv⟩ => ?_
  have lam : WE X (.Lambda params body scope lpos) σ H1 (fun u H3 => ∃ f c', u = .ref f ∧ Ex H1 H3 ∧ Tabs Tabl.T H3 ∧ H1 f = none ∧ H3 f = some (LmO f ⟨X.env.qual ++ "<lambda>", params, body, scope, cloFrom X.env.cells scope.names [], c'⟩) ∧ H3 c' = some (CodeO c' (X.env.qual ++ "<lambda>"))) := fun pins s I =>
    lm_make I TB hcode hmT hu st.fh.tabs hdef hfree' fun f c' H3 s' I3 ex tb h1 h2 h3 => ⟨.ref f, H3, I3, rfl, f, c', rfl, ex, tb, h1, h2, h3⟩
  refine thn ((pk_cons (nm := some "key") (kpos := kpos) pe_W pk_nil).run pos pins s1 σ H1 (fun zs H3 => ∃ f c', zs = [.ref f] ∧ Ex H1 H3 ∧ Tabs Tabl.T H3 ∧ H1 f = none ∧ H3 f = some (LmO f ⟨X.env.qual ++ "<lambda>", params, body, scope, cloFrom X.env.cells scope.names [], c'⟩) ∧ H3 c' = some (CodeO c' (X.env.qual ++ "<lambda>"))) I1 (fun pins s I => wpAny_mono (lam pins s I) (fun v s' ⟨u, H3, I3, r3, f, c', e, q3⟩ => ⟨u, H3, I3, r3, by subst e; exact ⟨f, c', rfl, q3⟩⟩) fun _ _ x => x)) fun ws s2 ⟨zs, H3, I3, r2, f, c', ez, ex, tb, h1f, h3f, h3c⟩ => ?_
  subst ez
  obtain ⟨wv, rfl, rw'⟩ := vals1 r2
  obtain rfl : wv = Value.ref f := rw'
  cases dv with
  | cons d1 dr =>
    cases dr
    obtain ⟨dvv, rfl, rd⟩ := vals1 r1
    cases d1 with
    | dic g1 g2 g3 g4 =>
      rename_i d kws
      obtain rfl : dvv = Value.ref d := rd
      have fh3 : Fh F2 H3 := ⟨st.fh.toEx.trans ex, tb⟩
      have st3 : Stp F1 H F2 H3 := ⟨st.ff, st.hh.trans ex, fh3, st.nw⟩
      show wpAny (model X.prog X.w) X.A (call (.builtin "sorted") [.ref d] [(Str.ofString "key", .ref f)]) _ _ s2
      obtain ⟨z, lo, vs', rel, dd⟩ := dk_rd I3.hok (ex_rd fh3 g1)
      obtain ⟨ep, hat⟩ := dd.dictAt
      have hkeys : vs'.map (·.1) = xs.map Sum.inr := rel.keys.symm.trans (keyStrs_is g2 hx)
      have hvl : vs'.length = xs.length := by
        have e := congrArg List.length hkeys
        rw [List.length_map, List.length_map] at e
        exact e
      have big : 100 ≤ sizeLine := by decide
      refine call_function_entry_kw kind_sorted plain_sorted entry_sorted (ksk_s1 _ _) ?_
      unfold Builtin.«sorted»
      refine wpAny_bind (m := checkCount "sorted" 1 1 _) (wpAny_pure ?_)
      refine wpAny_bind (PySem.W.kdu_collect (A := X.A.in1) (PySem.W.kdl_dict (knd := mixKind X.prog X.w) (kvs := vs') (ep := ep) lo) (I3.ok.hd hcalm) hat (by omega) fun h' tk acc hk hacc => ?_)
      have hal : acc.toList.length = xs.length := by rw [Array.length_toList, hacc.1, hvl]
      have hS : StrsAre acc.toList xs := strs_at hal fun j v e => by
        obtain ⟨k, x, q1, q2⟩ := hacc.2 j v (by rw [← Array.getElem?_toList]; exact e)
        have q3 : (vs'.map (·.1))[j]? = some k := by rw [List.getElem?_map, q1]; all_goals rfl
        rw [hkeys, List.getElem?_map] at q3
        cases q4 : xs[j]? with
        | none => rw [q4] at q3; cases q3
        | some y =>
          rw [q4] at q3
          have q5 : Sum.inr y = k := Option.some.inj q3
          subst q5
          obtain ⟨t, ev⟩ := Value.isStrOf_shape (x := y) (v := v) q2
          exact ⟨y, t, rfl, ev⟩
      refine wpAny_bind (wpAny_newList ?_ (by omega))
      have hoL : (h'.push (seqObj "list" acc.toList.toArray 0)).get? h'.objs.size = some (seqObj "list" acc.toList.toArray 0) := Heap.get?_push_size _ rfl
      show wpAny _ _ _ _ _ { s2 with heap := h'.push (seqObj "list" acc.toList.toArray 0), toks := tk }
      refine wpAny_bind (wpAny_holding (wpAny_call_entry_kw slot_list_sort ⟨_, hoL, rfl⟩ entry_list_sort ?srt (ksk_l1 _ _)))
      case srt =>
        show wpAny (model X.prog X.w) X.A.in1.in1 (Builtin.«list.sort» ⟨[.ref h'.objs.size], [(Str.ofString "key", .ref f)]⟩) _ _ _
        rw [ksk_t1]
        unfold ksk_tree
        refine wpAny_bind (listItems_at hoL rfl ?_)
        refine wpAny_bind (listUpdate_at hoL rfl ?_ (by rw [List.size_toArray]; omega) (Nat.zero_le _))
        obtain ⟨e0, ho1⟩ : ∃ e0, ((h'.push (seqObj "list" acc.toList.toArray 0)).update h'.objs.size (Obj.mapSeq fun _ => (#[] : Array Value))).get? h'.objs.size = some (seqObj "list" #[] e0) := ⟨_, get?_update_seq hoL (fun _ => #[])⟩
        refine wpAny_bind (seqEpoch_at ho1 rfl ?_)
        refine wpAny_bind (wpAny_newTuple ?_ (by show acc.toList.length ≤ _; omega))
        refine wpAny_bind (wpAny_newList ?_ (Nat.zero_le _))
        refine wpAny_holding ?_
        have I3' : Inv X pins σ H3 { s2 with heap := h', toks := tk } := I3.kept hk
        have k1 : ∀ b o, h'.get? b = some o → (((h'.push (seqObj "list" acc.toList.toArray 0)).update h'.objs.size (Obj.mapSeq fun _ => (#[] : Array Value))).push (seqObj "tuple" acc.toList.toArray 0)).get? b = some o := fun b o e' => by
          have nb : b ≠ h'.objs.size := Nat.ne_of_lt (Heap.lt_size e')
          exact Heap.get?_push_of_some _ ((Heap.get?_update_ne _ _ _ _ nb).trans (Heap.get?_push_of_some _ e'))
        have hla0 : (((h'.push (seqObj "list" acc.toList.toArray 0)).update h'.objs.size (Obj.mapSeq fun _ => (#[] : Array Value))).push (seqObj "tuple" acc.toList.toArray 0)).get? h'.objs.size = some (seqObj "list" #[] e0) := Heap.get?_push_of_some _ ho1
        have Ia : Inv X pins σ (upd H3 h'.objs.size (.lst [])) { s2 with heap := ((h'.push (seqObj "list" acc.toList.toArray 0)).update h'.objs.size (Obj.mapSeq fun _ => (#[] : Array Value))).push (seqObj "tuple" acc.toList.toArray 0), toks := tk } := I3'.laid k1 (Nat.le_refl _) ⟨Nat.zero_le _, [], e0, .nil, hla0⟩
        have n3a : H3 h'.objs.size = none := I3'.hok.fresh (Nat.le_refl _)
        have nk0 := Ia.hok.fresh (Nat.le_refl _)
        have Ib := Ia.laid (t' := tk) (o := .lst []) (a := (((h'.push (seqObj "list" acc.toList.toArray 0)).update h'.objs.size (Obj.mapSeq fun _ => (#[] : Array Value))).push (seqObj "tuple" acc.toList.toArray 0)).objs.size) (h' := (((h'.push (seqObj "list" acc.toList.toArray 0)).update h'.objs.size (Obj.mapSeq fun _ => (#[] : Array Value))).push (seqObj "tuple" acc.toList.toArray 0)).push (seqObj "list" #[] 0)) (fun b u e => Heap.get?_push_of_some _ e) (Nat.le_refl _) ⟨Nat.zero_le _, [], 0, .nil, Heap.get?_push_size _ rfl⟩
        generalize hkSe : (((h'.push (seqObj "list" acc.toList.toArray 0)).update h'.objs.size (Obj.mapSeq fun _ => (#[] : Array Value))).push (seqObj "tuple" acc.toList.toArray 0)).objs.size = kS at Ib nk0 ⊢
        generalize hlae : h'.objs.size = la at *
        have hka : kS ≠ la := fun z => by rw [z, upd_same] at nk0; cases nk0
        have n3k : H3 kS = none := by rw [upd_ne hka] at nk0; exact nk0
        have hlb : upd (upd H3 la (.lst [])) kS (.lst []) la = some (.lst []) := by rw [upd_ne hka.symm, upd_same]
        obtain ⟨od, Ic⟩ := Ib.lock hlb True.intro
        have hnf := Ib.nofrz hlb True.intro
        have hod : od = seqObj "list" #[] e0 := by
          obtain ⟨q1, _⟩ := (show ObjOk X.prog X.w _ _ la (.frz od (.lst [])) from Ic.hok la _ upd_same)
          have q2 := Heap.get?_push_of_some (seqObj "list" #[] 0) hla0
          exact Option.some.inj (q1.symm.trans q2)
        have fla : F2 la = none := fh3.free n3a
        have fkS : F2 kS = none := fh3.free n3k
        have s0 : Stp F2 H3 F2 (upd H3 la (.lst [])) := .loose fh3 n3a
        have s1' : Stp F2 H3 F2 (upd (upd H3 la (.lst [])) kS (.lst [])) := s0.trans (.loose s0.fh nk0)
        have s2' : Stp F2 H3 F2 (upd (upd (upd H3 la (.lst [])) kS (.lst [])) la (.frz od (.lst []))) := s1'.updD fla n3a hlb
        refine lsort_run (F := ⟨X.env.qual ++ "<lambda>", params, body, scope, cloFrom X.env.cells scope.names [], c'⟩) (f := f) (la := la) (kS := kS) (od := od) (e1 := e0) (xs := xs) (kz := kz) (us := acc.toList) (Fz := F2) (H0 := H3) S (fun u pm ctv => hb _ _ _ u pm ctv) (fun ok => Caps.made ok hfree hfr hjs) hr hod hlen hl hS hka n3a n3k hnf h3f h3c Ic s2' upd_same fla (by rw [upd_ne hka, upd_same]) fkS
          (fun i x k h1 h2 A s H hroom => (turn i x k h1 h2 _ f A s H rfl rfl hroom).mono (e1.trans st.ff)) fun s' F' H' sx Ix fx hx' => ⟨_, rfl, ?_⟩
        refine wpAny_pure ⟨_, rfl, .ref la, _, Ix, rfl, ?_⟩
        have hsx := (st3.trans sx).updD (p := la) (o := .lst ((ordK kz xs.length).map fun i => V.str (xs.getD i Str.empty))) fx (st3.hh.free n3a) hx'
        refine q _ F' _ [la] hsx (.lst upd_same fx (owns_zero ?_) (by simp) ?_) fun b hb' => ?_
        · rw [sortK_idx (D.str Str.empty) (by rw [List.length_map]; exact hlen), List.length_map]
          refine dats_map fun i hi => ?_
          have hlt := ordK_lt i hi
          obtain ⟨x, hxi⟩ : ∃ x, xs[i]? = some x := ⟨_, List.getElem?_eq_getElem hlt⟩
          rw [getD_of hxi, getD_of (show (xs.map D.str)[i]? = some (.str x) by rw [List.getElem?_map, hxi]; rfl)]
          exact .str x
        · rw [List.length_map, (sortK_perm _).length_eq, List.length_zip, List.length_map]
          have : 64 ≤ cap := by decide
          omega
        · have e : b = la := by simpa using hb'
          rw [e]; exact st3.hh.free n3a
end
end PV

set_option Elab.async false
set_option linter.all false
set_option maxRecDepth 100000
set_option maxHeartbeats 1000000
/-! PV, part K: from the model's expressions to ours. -/
namespace PV
open PySem PySem.Spec PyProof.Rows L2 LamX NdefX
variable [Tabl]

def slotOf : List Str → Str → Option Nat
  | [], _ => none
  | y :: r, x => if y = x then some 0 else (slotOf r x).map (· + 1)
theorem slotOf_get : ∀ {N : List Str} {x : Str} {i : Nat}, slotOf N x = some i → N[i]? = some x
  | [], _, _, h => by cases h
  | y :: r, x, i, h => by
    unfold slotOf at h
    split at h
    · rename_i e; cases h; rw [e]; rfl
    · obtain ⟨j, hj, rfl⟩ := Option.map_eq_some_iff.mp h
      rw [List.getElem?_cons_succ]; exact slotOf_get hj
def okName (x : Str) : Bool := !(x == ("__debug__" : Str)) && !(x == ("__classdict__" : Str)) && !(x == ("__name__" : Str))
def visB (sc : Scope) (x : Str) : Bool := match sc.names.lookup x with
  | some .local => true | some .cell => true | some .free => true | _ => false
def globB (sc : Scope) (x : Str) : Bool := match sc.names.lookup x with
  | some .globalImplicit => true | _ => false
def locB (sc : Scope) (x : Str) : Bool := match sc.names.lookup x with
  | some .local => true | some .cell => true | _ => false
theorem vis_of {sc : Scope} {x : Str} (h : visB sc x = true) : Vis sc x := by
  unfold visB at h
  split at h
  · exact .inl (by assumption)
  · exact .inr (.inl (by assumption))
  · exact .inr (.inr (by assumption))
  · cases h
/-- the names of a block: N the slots, sc the scope that runs, ws the written one -/
structure Blk where
  N : List Str
  sc : Scope
  ws : Scope
  lam : Bool
def cmpOf : CmpOp → Option Cop
  | .Eq => some .eq | .NotEq => some .ne | .Lt => some .lt | .LtE => some .le | .Gt => some .gt | .GtE => some .ge | .In => some .isin | .NotIn => some .notin | .Is => some .is_ | .IsNot => some .isnot
theorem cmpOf_eq {o : CmpOp} {c : Cop} (h : cmpOf o = some c) : o = copOf c := by
  cases o <;> (cases h; rfl)
def bopOf : Operator → Option Bop
  | .Add => some .add | .Sub => some .sub | .Mult => some .mul | .FloorDiv => some .fdiv | .Mod => some .mod | .Pow => some .pow
  | _ => none
theorem bopOf_eq {o : Operator} {c : Bop} (h : bopOf o = some c) : o = opOf c := by
  cases o <;> first | (cases h; rfl) | cases h
def isNeT : Cop → Exp → Exp → Bool
  | .ne, .tup _, .tup _ => true
  | _, _, _ => false
def bltNames : List Str := ["len", "all", "any", "list", "tuple", "set", "isinstance", "range", "enumerate", "zip", "int", "bool", "str", "dict", "sorted", "min", "max", "sum"]
def isSetCall : Expr → Option Expr
  | .Call (.Name g _) [a] [] _ => if g = "set" then some a else none
  | _ => none
/-- a base of an attribute that is no call of super -/
def baseB : Expr → Bool
  | .Call (.Name _ _) [] [] _ => false
  | _ => true
def isValues : Expr → Option Expr
  | .Call (.Attribute o m apos) [] [] cpos => if m = "values" ∧ apos.endLine == cpos.line ∧ baseB o = true then some o else none
  | _ => none
def tyOf (T : Str) : Option Bf :=
  if T = "int" then some .isint else if T = "bool" then some .isbool else if T = "list" then some .islist else if T = "tuple" then some .istuple else if T = "str" then some .isstr else none
def nameOfE : Expr → Option Str
  | .Name x _ => some x
  | _ => none
def kwNames : List Keyword → Option (List Str)
  | [] => some []
  | k :: r => match k.arg, kwNames r with
    | some n, some ns => some (n :: ns)
    | _, _ => none
def trTgs (B : Blk) : List Expr → Option (List Nat)
  | [] => some []
  | .Name x _ :: r => if locB B.ws x = true then match slotOf B.N x, trTgs B r with
      | some i, some is => some (i :: is)
      | _, _ => none
    else none
  | _ :: _ => none
def trTg (B : Blk) : Expr → Option Tg
  | .Name x _ => if locB B.ws x = true then (slotOf B.N x).map .one else none
  | .Tuple es _ _ => (trTgs B es).map .many
  | _ => none
def ownOf (N : List Str) (scope : Scope) : List (Str × Nat) := scope.names.filterMap fun y => match y.2 with
  | .local => (slotOf N y.1).map fun i => (y.1, i)
  | .cell => (slotOf N y.1).map fun i => (y.1, i)
  | _ => none
def inner (B : Blk) (scope : Scope) : Blk := ⟨B.N, relS scope B.sc, scope, false⟩
def isTupE : Expr → Bool
  | .Tuple .. => true
  | _ => false

/-- a dict that a walk goes over: a name, or a name's field -/
def pathB : Expr → Bool
  | .Name .. => true
  | .Attribute (.Name ..) _ _ => true
  | _ => false
/-- the one parameter of a lambda -/
def lamPar (params : Arguments) : Option Str := match params with
  | ⟨[], [a], none, [], [], none, []⟩ => some a.arg
  | _ => none
/-- the names that a lambda captures -/
def lamFr (scope : Scope) : List Str := scope.names.filterMap fun y => match y.2 with
  | .free => some y.1
  | _ => none
def slotsOf (N : List Str) : List Str → Option (List Nat)
  | [] => some []
  | x :: r => match slotOf N x, slotsOf N r with
    | some i, some is => some (i :: is)
    | _, _ => none
def isList : Expr → Bool
  | .List .. => true
  | _ => false
def revStep : Option Expr → Option Expr → Expr → Bool
  | none, none, .UnaryOp .USub (.Constant (.int i) _ _) _ => decide (i = 1)
  | _, _, _ => false
/-- (list, tuple) -/
def isLTb : Expr → Bool
  | .Tuple [.Name x _, .Name y _] _ _ => decide (x = "list") && decide (y = "tuple")
  | _ => false
section
/-- what stands in a walk's or an argument's place -/
def trIter (rec : Expr → Option Exp) (B : Blk) (tg : Expr) (e : Expr) : Option Exp := match e with
  | .Call (.Name f p) args kws pos =>
    if globB B.sc f = true ∧ okName f = true ∧ f = "range" then match args, kws with
      | [a], [] => (rec a).map .rng
      | _, _ => none
    else if globB B.sc f = true ∧ okName f = true ∧ f = "enumerate" ∧ isTupE tg = true then match args, kws with
      | [a], [] => (rec a).map .enm
      | _, _ => none
    else if globB B.sc f = true ∧ okName f = true ∧ f = "zip" ∧ isTupE tg = true then match args, kws with
      | [a, b], [] => match rec a, rec b with
        | some x, some y => some (.zp x y)
        | _, _ => none
      | _, _ => none
    else (rec (.Call (.Name f p) args kws pos)).map .itn
  | .Call (.Attribute o m apos) args kws cpos =>
    if m = "items" ∧ pathB o = true ∧ (apos.endLine == cpos.line) = true ∧ isTupE tg = true ∧ args.isEmpty = true ∧ kws.isEmpty = true then (rec o).map .items
    else if m = "values" ∧ pathB o = true ∧ (apos.endLine == cpos.line) = true ∧ args.isEmpty = true ∧ kws.isEmpty = true then (rec o).map .vals
    else (rec (.Call (.Attribute o m apos) args kws cpos)).map .itn
  | .Name y p => (rec (.Name y p)).map .itr
  | e => (rec e).map .itn
def trIfs (rec : Expr → Option Exp) : List Expr → Option Exp
  | [] => some .yes
  | [c] => rec c
  | _ => none
def trPart (rec : Expr → Option Exp) : Option Expr → Option Exp
  | none => some .nil
  | some e => (rec e).map .itr
def trList (rec : Expr → Option Exp) : List Expr → Option Exp
  | [] => some .nil
  | e :: r => match rec e, trList rec r with
    | some x, some y => some (.cons x y)
    | _, _ => none
def trKws (rec : Expr → Option Exp) : List Keyword → Option Exp
  | [] => some .nil
  | k :: r => match rec k.value, trKws rec r with
    | some x, some y => some (.cons x y)
    | _, _ => none
def trBool (rec : Expr → Option Exp) (mk : Exp → Exp → Exp) : List Expr → Option Exp
  | [] => none
  | [a] => rec a
  | a :: b :: r => match rec a, trBool rec mk (b :: r) with
    | some x, some y => some (mk x y)
    | _, _ => none
def trCall (rec : Expr → Option Exp) (B : Blk) (f : Str) (args : List Expr) (kws : List Keyword) : Option Exp :=
  if globB B.sc f = true ∧ okName f = true then
    if f ∈ bltNames then match args, kws with
      | [a], [] =>
        if f = "len" then match isSetCall a with
          | some b => if globB B.sc "set" = true then (rec b).map (.blt .lenset) else none
          | none => (rec a).map (.blt .len)
        else if f = "list" then match isValues a with
          | some o => (rec o).map (.blt .listvals)
          | none => (rec a).map (.blt .list)
        else if f = "all" then (rec a).map (.blt .all)
        else if f = "any" then (rec a).map (.blt .any)
        else if f = "tuple" then (rec a).map (.blt .tuple)
        else if f = "max" then (rec a).map (.blt .max)
        else if f = "min" then (rec a).map (.blt .min)
        else if f = "sorted" then (rec a).map (.blt .sorted)
        else if f = "dict" then (rec a).map (.blt .dict)
        else none
      | [a, b], [] => if f = "isinstance" then match nameOfE b with
          | some T => if globB B.sc T = true ∧ okName T = true then match tyOf T with
              | some t => (rec a).map (.blt t)
              | none => if T ∈ bltNames then none else (rec a).map (.isC T)
            else none
          | none => if isLTb b = true ∧ globB B.sc "list" = true ∧ globB B.sc "tuple" = true then (rec a).map (.blt .islt) else none
        else if f = "max" then match rec a, rec b with
          | some x, some y => some (.mx2 x y)
          | _, _ => none
        else none
      | _, _ => none
    else match trList rec args, kwNames kws, trKws rec kws with
      | some as, some ks, some ws => some (.call f as ks ws)
      | _, _, _ => none
  else none
def tr : Nat → Blk → Expr → Option Exp
  | 0, _, _ => none
  | n + 1, B, e => match e with
    | .Name x _ => if okName x = true then
        if visB B.sc x = true then (slotOf B.N x).map .var
        else if globB B.sc x = true then some (.glob x) else none
      else none
    | .Constant c _ _ => match c with
      | .none => some .non
      | .bool b => some (.bl b)
      | .int i => some (.int i)
      | .str x => some (.str x)
      | _ => none
    | .BinOp a op b _ => match bopOf op, tr n B a, tr n B b with
      | some o, some x, some y => some (.bin o x y)
      | _, _, _ => none
    | .UnaryOp op a _ => match op with
      | .USub => (tr n B a).map .neg
      | .Not => (tr n B a).map .nt
      | _ => none
    | .BoolOp op vs _ => match op with
      | .And => trBool (tr n B) .and_ vs
      | .Or => trBool (tr n B) .or_ vs
    | .Compare a ops cs _ => match ops, cs with
      | [op], [b] => match cmpOf op, tr n B a, tr n B b with
        | some o, some x, some y => if isNeT o x y = true then some (.nett x y) else some (.cmp o x y)
        | _, _, _ => none
      | [op, op'], [b, c] => match cmpOf op, cmpOf op', tr n B a, tr n B b, tr n B c with
        | some o, some o', some x, some y, some z => some (.chain o o' x y z)
        | _, _, _, _, _ => none
      | _, _ => none
    | .IfExp t a b _ => match tr n B t, tr n B a, tr n B b with
      | some x, some y, some z => some (.ife x y z)
      | _, _, _ => none
    | .Call f args kws cpos => match f with
      | .Name f _ => match kws with
        | [⟨some kx, .Lambda params body scope _, _⟩] => match args, lamPar params, slotsOf B.N (lamFr scope) with
          | [a], some pn, some js => if f = "sorted" ∧ kx = "key" ∧ globB B.sc f = true ∧ B.lam = true ∧ nscB (pn :: lamFr scope) [pn] (lamFr scope) scope = true ∧ ndefB B.sc scope (lamFr scope) = true then
              match tr n B a, tr n ⟨pn :: lamFr scope, scope, scope, false⟩ body with
              | some x, some y => if nocallB y = true then some (.sortk js x y) else none
              | _, _ => none
            else none
          | _, _, _ => none
        | _ => trCall (tr n B) B f args kws
      | .Attribute o m apos => if m = "index" then match args, kws with
          | [b], [] => if baseB o = true ∧ apos.endLine == cpos.line then match tr n B o, tr n B b with
              | some x, some y => some (.index x y)
              | _, _ => none
            else none
          | _, _ => none
        else if baseB o = true ∧ (apos.endLine == cpos.line) = true ∧ args.isEmpty = false ∧ args.length + kws.length < 20 then
          match tr n B o, trList (tr n B) args, kwNames kws, trKws (tr n B) kws with
          | some x, some as, some ks, some ws => some (.meth x m as ks ws)
          | _, _, _, _ => none
        else none
      | _ => none
    | .Attribute o f _ => if baseB o = true then (tr n B o).map fun x => .fld x f else none
    | .Subscript a b _ => match b with
      | .Slice lo hi st _ => match st with
        | none => match tr n B a, trPart (tr n B) lo, trPart (tr n B) hi with
          | some x, some y, some z => some (.slc x y z)
          | _, _, _ => none
        | some st => if revStep lo hi st = true then (tr n B a).map .rev else none
      | b => match tr n B a, tr n B b with
        | some x, some y => some (.idx x y)
        | _, _ => none
    | .List es _ => (trList (tr n B) es).map .lst
    | .Tuple es _ _ => (trList (tr n B) es).map .tup
    | .Dict ks vs _ => match ks, vs with
      | [], [] => some .dnew
      | [some k], [v] => match tr n B k, tr n B v with
        | some x, some y => some (.dpair x y)
        | _, _ => none
      | _, _ => none
    | .ListComp elt gs scope _ => match gs with
      | [⟨tg, iter, ifs, as⟩] => if as = 0 ∧ blkC B.N B.sc scope (ownOf B.N scope) = true then
          match trTg (inner B scope) tg, trIter (tr n B) B tg iter, trIfs (tr n (inner B scope)) ifs, tr n (inner B scope) elt with
          | some t, some i, some c, some x => if (tgIdx t).all (fun i => decide (i ∈ (ownOf B.N scope).map (·.2))) = true then some (.lc ((ownOf B.N scope).map (·.2)) t i c x) else none
          | _, _, _, _ => none
        else none
      | _ => none
    | .DictComp kx vx gs scope _ => match gs with
      | [⟨tg, iter, ifs, as⟩] => if as = 0 ∧ blkC B.N B.sc scope (ownOf B.N scope) = true then
          match trTg (inner B scope) tg, trIter (tr n B) B tg iter, trIfs (tr n (inner B scope)) ifs, tr n (inner B scope) kx, tr n (inner B scope) vx with
          | some t, some i, some c, some x, some y => if (tgIdx t).all (fun i => decide (i ∈ (ownOf B.N scope).map (·.2))) = true then some (if isList vx = true then .dco ((ownOf B.N scope).map (·.2)) t i c x y else .dc ((ownOf B.N scope).map (·.2)) t i c x y) else none
          | _, _, _, _, _ => none
        else none
      | _ => none
    | _ => none
end
end PV

set_option Elab.async false
set_option linter.all false
set_option maxRecDepth 100000
set_option maxHeartbeats 2000000
/-! PV, part L: expressions are sound. -/
namespace PV
open PySem PySem.Spec PyProof.Rows L2 LamX NdefX
variable [Tabl]

/-- a def that makes lambdas: its code object and its table -/
def LamF (X : Cx) : Prop := ∃ c P, TabB X.base X.mg c P ∧ X.env.code = .ref c ∧ (P, X.env.qual ++ "<lambda>") ∈ Tabl.T ∧ ∀ p ∈ Tabl.T, p.1 = P → p.2 = X.env.qual ++ "<lambda>"
structure XOk (X : Cx) (B : Blk) (lvl : Nat) : Prop where
  N_ : X.N = B.N
  nd : B.N.Nodup
  sc_ : X.env.scope = B.sc
  calm : X.calm = true
  room : Room lvl X.A
  asg : ∀ x, locB B.ws x = true → Loc B.sc x ∧ (X.fn x = true ∨ B.sc.names.lookup x = some .local)
  lam : B.lam = true → LamF X ∧ Room 3 X.A
structure G5 where
  P : Program
  w : World
  K : PySem.W.Frag
  mg : Str → Option Value
  base : Heap
structure On (g : G5) (X : Cx) : Prop where
  p : X.prog = g.P
  w : X.w = g.w
  k : X.K = g.K
  m : X.mg = g.mg
  b : X.base = g.base
def WK (X : Cx) (kws : List Keyword) : TA := fun σ H Q => ∀ pos pins s, Inv X pins σ H s → wpAny (model X.prog X.w) X.A (evalAll ((backToKw pos (keywordEach kws X.env)).map (·.2))) (AP X pins σ Q) X.xe s
theorem pk_W {X : Cx} {kws : List Keyword} : PK X kws (WK X kws) := ⟨fun pos pins s _ _ _ I h => h pos pins s I⟩
theorem wk_of {X : Cx} {kws : List Keyword} {t : TA} (h : PK X kws t) {σ : L2.St} {H : Hp} {Q : List V → Hp → Prop} (q : t σ H Q) : WK X kws σ H Q := fun pos pins s I => h.run pos pins s σ H Q I q
def EvK (X : Cx) (kws : List Keyword) (σ : L2.St) (F : Hp) (ds : List D) : Prop :=
  ∀ F1 H, Ex F F1 → Fh F1 H → ∀ Q : List V → Hp → Prop, (∀ vs F2 H2, Stp F1 H F2 H2 → Dats X.K F2 vs ds → Q vs H2) → WK X kws σ H Q
theorem ek_nil {X : Cx} {σ : L2.St} {F : Hp} : EvK X [] σ F [] := fun F1 H e1 e2 Q q => wk_of pk_nil (show Q [] H from q [] F1 H (.refl e2) .nil)
theorem ek_cons {X : Cx} {σ : L2.St} {F : Hp} {nm : Option Str} {e : Expr} {kpos : Pos} {kws : List Keyword} {d : D} {ds : List D} (ha : EvZ X e σ F d) (hr : EvK X kws σ F ds) : EvK X (⟨nm, e, kpos⟩ :: kws) σ F (d :: ds) :=
  fun F1 H e1 e2 Q q => wk_of (pk_cons pe_W pk_W) (ha F1 H e1 e2 _ fun v F2 H2 st d1 => hr F2 H2 (e1.trans st.ff) st.fh _ fun vs F3 H3 s2 d2 => q (v :: vs) F3 H3 (st.trans s2) (.cons (d1.mono s2.ff) d2))
/-- the defs are as C tells -/
def CallF (g : G5) (lvl : Nat) (C : Fn → List D → List Str → List D → Option (Nat × D)) : Prop :=
  ∀ X, On g X → X.calm = true → Room lvl X.A → ∀ (f : Str) (args : List Expr) (kws : List Keyword) (ks : List Str) (p pos : Pos) (σ : L2.St) (F : Hp) (ds es : List D) (k : Nat) (d : D), Gl X f → okName f = true → (∀ e ∈ args, Pl X e) → args.length = ds.length → kwNames kws = some ks →
    EvA X args σ F ds → EvK X kws σ F es → C (.fn f) ds ks es = some (k, d) → EvD X (.Call (.Name f p) args kws pos) σ F k d
def CallM (g : G5) (lvl : Nat) (C : Fn → List D → List Str → List D → Option (Nat × D)) : Prop :=
  ∀ X, On g X → X.calm = true → Room lvl X.A → ∀ (o : Expr) (m : Str) (args : List Expr) (kws : List Keyword) (ks : List Str) (apos pos : Pos) (σ : L2.St) (F : Hp) (c : Str) (fs : List (Str × D)) (ds es : List D) (k : Nat) (d : D), attributeBase o m X.env (eval o X.env) = eval o X.env → (apos.endLine == pos.line) = true → args ≠ [] → args.length + kws.length < 20 →
    (∀ e ∈ args, Pl X e) → args.length = ds.length → kwNames kws = some ks → EvZ X o σ F (.ins c fs) → EvA X args σ F ds → EvK X kws σ F es → fs.lookup m = none → C (.me c m) (.ins c fs :: ds) ks es = some (k, d) → EvD X (.Call (.Attribute o m apos) args kws pos) σ F k d
structure CallS (g : G5) (lvl : Nat) (C : Fn → List D → List Str → List D → Option (Nat × D)) : Prop where
  fn : CallF g lvl C
  me : CallM g lvl C
structure GloS (g : G5) (G : Glo) : Prop where
  v : ∀ x d, G.v x = some d → ∃ v u, g.mg x = some u ∧ RelV v u ∧ ∀ F, Dat g.K F v d
  fld : ∀ c f, G.fld c f = true → ∀ C, PySem.W.nsIn g.K mainGlobals c = some (some (.ref C)) → Cls g.K C ∧ NoAttr g.K C f
  isi : ∀ c x b, G.isi c x = some b → ∃ CT, g.mg x = some (.ref CT) ∧ ∀ C, PySem.W.nsIn g.K mainGlobals c = some (some (.ref C)) → ClsK g.K C ∧ PySem.W.kitOne g.K (.ref C) (.ref CT) = some b
def BltS (g : G5) : Prop := ∀ x ∈ bltNames, g.mg x = none
section
variable {X : Cx} {e : Expr} {σ : L2.St} {F : Hp} {k : Nat} {b : Bool} {d : D}
theorem EvZ.bl (h : EvZ X e σ F (.bl b)) : EvD X e σ F k (.bl b) := fun F1 H e1 e2 Q q => h F1 H e1 e2 Q fun v F2 H2 st d1 => q v F2 H2 [] st (.sc rfl d1) (by simp)
theorem et_ife {c a b : Expr} {pos : Pos} {t u : Bool} (hc : EvT X c σ F t) (ht : t = true → EvT X a σ F u) (hf : t = false → EvT X b σ F u) : EvT X (.IfExp c a b pos) σ F u := fun F1 H e1 e2 Q q => by
  intro pins s I
  show wpAny _ _ (do if ← isTrue c X.env (eval c X.env) then isTrue a X.env (eval a X.env) else isTrue b X.env (eval b X.env)) _ _ s
  refine wpAny_bind (thn (hc F1 H e1 e2 (fun b' H' => b' = t ∧ ∃ F2, Stp F1 H F2 H') (fun F2 H2 st => ⟨rfl, F2, st⟩) pins s I) fun b' s1 ⟨H1, I1, eb, F2, st⟩ => ?_)
  subst eb
  cases b' with
  | true =>
    rw [if_pos rfl]
    exact ht rfl F2 H1 (e1.trans st.ff) st.fh Q (fun F3 H3 s2 => q F3 H3 (st.trans s2)) pins s1 I1
  | false =>
    rw [if_neg Bool.false_ne_true]
    exact hf rfl F2 H1 (e1.trans st.ff) st.fh Q (fun F3 H3 s2 => q F3 H3 (st.trans s2)) pins s1 I1
end
/-! ### facts of the text -/
section
variable {n : Nat} {B : Blk} {e : Expr} {E : Exp}
theorem tr_pl (h : tr n B e = some E) (X : Cx) : Pl X e := by
  cases n with
  | zero => cases h
  | succ n => cases e <;> first | (intro es; rfl) | cases h
theorem tr_marks (h : tr n B e = some E) (o : CmpOp) : behindInMarks o e = false := by
  cases n with
  | zero => cases h
  | succ n => cases e <;> first | rfl | cases h
theorem tr_ix (h : tr n B e = some E) : PlainIx e := by
  cases n with
  | zero => cases h
  | succ n => cases e <;> first | (intro _ _; rfl) | cases h
theorem base_of (h : baseB e = true) (m : Str) (env : Env) (w : Sem Value) : attributeBase e m env w = w := by
  unfold baseB at h
  split at h
  · cases h
  · rename_i hn
    cases e <;> try rfl
    rename_i f args kws pos
    cases f <;> try rfl
    cases args <;> try rfl
    cases kws <;> try rfl
    exact absurd rfl (hn _ _ _)
theorem tr_fold (h : tr n B e = some E) (env : Env) (x : Value) : foldedSetIterable e env x = pure x := by
  cases n with
  | zero => cases h
  | succ n => cases e <;> first | rfl | cases h
end
theorem ok_dbg {x : Str} (h : okName x = true) : (x == ("__debug__" : Str)) = false ∧ (x == ("__classdict__" : Str)) = false ∧ x ≠ "__name__" := by
  unfold okName at h
  simp only [Bool.and_eq_true, Bool.not_eq_true'] at h
  exact ⟨h.1.1, h.1.2, fun e => by rw [e] at h; simp at h⟩
theorem gl_of {X : Cx} {B : Blk} {lvl : Nat} (x : XOk X B lvl) {f : Str} (h : globB B.sc f = true) : Gl X f := by
  show X.env.scope.names.lookup f = some .globalImplicit
  rw [x.sc_]
  unfold globB at h
  split at h
  · assumption
  · cases h
theorem blk_loc {sc scope : Scope} {x : Str} (h : locB scope x = true) : Loc (relS scope sc) x ∧ ((scope.names.lookup x == some .cell) = true ∨ (relS scope sc).names.lookup x = some .local) := by
  unfold locB at h
  split at h
  · rename_i hl
    have := lookup_relS_keep (sc := sc) (k := .local) (by decide) hl
    exact ⟨.inl this, .inr this⟩
  · rename_i hl
    have := lookup_relS_keep (sc := sc) (k := .cell) (by decide) hl
    exact ⟨.inr this, .inl (by rw [hl]; rfl)⟩
  · cases h
theorem XOk.blk {X : Cx} {B : Blk} {lvl : Nat} (x : XOk X B lvl) (s : Shared) (H : Hp) (scope : Scope) (C : Addr) (cl : List (Str × Addr)) (fp : List Addr) : XOk (X.blk s H scope (compEnvC scope cl C X.env) fp) (inner B scope) lvl where
  N_ := x.N_
  nd := x.nd
  sc_ := by
    show relabel scope X.env = relS scope B.sc
    rw [← x.sc_]; rfl
  calm := x.calm
  room := x.room
  asg := fun y hy => blk_loc hy
  lam := fun h => by cases h
theorem On.blk {g : G5} {X : Cx} (o : On g X) (s : Shared) (H : Hp) (scope : Scope) (ce : Env) (fp : List Addr) : On g (X.blk s H scope ce fp) := ⟨o.p, o.w, o.k, o.m, o.b⟩
theorem pgs_of {X : Cx} {B : Blk} {lvl : Nat} (x : XOk X B lvl) (K : PySem.W.Frag) : ∀ {es : List Expr} {is : List Nat}, trTgs B es = some is → PGs X es (gMany K is) ∧ (assignEach es X.env).length = is.length ∧ (assignEach es X.env).findIdx? (·.1) = none
  | [], is, h => by cases h; exact ⟨pgs_nil, rfl, rfl⟩
  | e :: r, is, h => by
    cases e <;> try (cases (show (none : Option (List Nat)) = some is from h))
    rename_i y pos
    unfold trTgs at h
    split at h
    · rename_i hl
      split at h
      · rename_i i is' hi hr
        cases h
        obtain ⟨p1, p2, p3⟩ := pgs_of x K hr
        obtain ⟨l1, l2⟩ := x.asg y hl
        refine ⟨pgs_cons (pg_name (by rw [x.N_]; exact x.nd) (by rw [x.N_]; exact slotOf_get hi) (by rw [x.sc_]; exact l1) (by rw [x.sc_]; exact l2)) p1 rfl, ?_, ?_⟩
        · show (assignEach r X.env).length + 1 = _
          rw [p2]; rfl
        · show List.findIdx? (·.1) ((false, assign (.Name y pos) X.env) :: assignEach r X.env) = none
          rw [List.findIdx?_cons]
          simp [p3]
      · cases h
    · cases h
theorem pg_of {X : Cx} {B : Blk} {lvl : Nat} (x : XOk X B lvl) {e : Expr} {t : Tg} (h : trTg B e = some t) : PG X e (gOf X.K t) := by
  cases e <;> try (cases (show (none : Option Tg) = some t from h))
  · rename_i y pos
    replace h := (show (if locB B.ws y = true then (slotOf B.N y).map .one else none) = some t from h)
    split at h
    · rename_i hl
      obtain ⟨i, hi, rfl⟩ := Option.map_eq_some_iff.mp h
      obtain ⟨l1, l2⟩ := x.asg y hl
      exact pg_name (by rw [x.N_]; exact x.nd) (by rw [x.N_]; exact slotOf_get hi) (by rw [x.sc_]; exact l1) (by rw [x.sc_]; exact l2)
    · cases h
  · rename_i es kk pos
    obtain ⟨is, hi, rfl⟩ := Option.map_eq_some_iff.mp (show (trTgs B es).map .many = some t from h)
    obtain ⟨p1, p2, p3⟩ := pgs_of x X.K hi
    exact pg_tup x.calm p1 p2 p3

/-! ### the theorem -/
section
variable {g : G5} {lvl : Nat} {C : Fn → List D → List Str → List D → Option (Nat × D)} {G : Glo}
def Snd (g : G5) (lvl : Nat) (C : Fn → List D → List Str → List D → Option (Nat × D)) (G : Glo) (n : Nat) : Prop :=
  ∀ B e E, tr n B e = some E → ∀ X, On g X → XOk X B lvl → ∀ σ F ρ, SlotR X.K F σ ρ → ∀ k d, ev C G E ρ = some (k, d) → EvD X e σ F k d ∧ ∀ b, d = .bl b → EvT X e σ F b
/-- where isTrue is plain -/
theorem snd_val {X : Cx} {e : Expr} {σ : L2.St} {F : Hp} {k : Nat} {d : D} (h : EvD X e σ F k d) (he : ∀ whole, isTrue e X.env whole = (do let v ← whole; standAt e.pos; holding [v] (truthy v))) : EvD X e σ F k d ∧ ∀ b, d = .bl b → EvT X e σ F b :=
  ⟨h, fun b e => by subst e; exact .val h.z he⟩
variable {n : Nat} {B : Blk} {X : Cx} {σ : L2.St} {F : Hp} {ρ : Ro}
theorem snd_list (S : Snd g lvl C G n) (o : On g X) (x : XOk X B lvl) (hs : SlotR X.K F σ ρ) : ∀ {es : List Expr} {E : Exp} {ds : List D}, trList (tr n B) es = some E → evs C G E ρ = some ds → EvA X es σ F ds
  | [], E, ds, h, q => by
    cases h
    simp only [evs, Option.some.injEq] at q
    subst q
    exact ea_nil
  | e :: r, E, ds, h, q => by
    unfold trList at h
    split at h
    · rename_i a b ha hb
      cases h
      simp only [evs] at q
      split at q
      · rename_i k d ds' hd hds
        cases q
        exact ea_cons (S B e a ha X o x σ F ρ hs k d hd).1.z (snd_list S o x hs hb hds) (tr_pl ha X r)
      · cases q
    · cases h
theorem snd_kws (S : Snd g lvl C G n) (o : On g X) (x : XOk X B lvl) (hs : SlotR X.K F σ ρ) : ∀ {es : List Keyword} {E : Exp} {ds : List D}, trKws (tr n B) es = some E → evs C G E ρ = some ds → EvK X es σ F ds
  | [], E, ds, h, q => by
    cases h
    simp only [evs, Option.some.injEq] at q
    subst q
    exact ek_nil
  | ⟨nm, e, kp⟩ :: r, E, ds, h, q => by
    unfold trKws at h
    split at h
    · rename_i a b ha hb
      cases h
      simp only [evs] at q
      split at q
      · rename_i k d ds' hd hds
        cases q
        exact ek_cons (S B e a ha X o x σ F ρ hs k d hd).1.z (snd_kws S o x hs hb hds)
      · cases q
    · cases h
theorem list_len : ∀ {es : List Expr} {E : Exp} {ds : List D}, trList (tr n B) es = some E → evs C G E ρ = some ds → es.length = ds.length
  | [], E, ds, h, q => by
    cases h
    simp only [evs, Option.some.injEq] at q
    subst q
    rfl
  | e :: r, E, ds, h, q => by
    unfold trList at h
    split at h
    · rename_i a b ha hb
      cases h
      simp only [evs] at q
      split at q
      · rename_i k d ds' hd hds
        cases q
        rw [List.length_cons, List.length_cons, list_len hb hds]
      · cases q
    · cases h
theorem list_pl : ∀ {es : List Expr} {E : Exp}, trList (tr n B) es = some E → ∀ e ∈ es, Pl X e
  | [], _, _, e, h => by cases h
  | a :: r, E, h, e, he => by
    unfold trList at h
    split at h
    · rename_i a' b ha hb
      rcases List.mem_cons.mp he with rfl | he
      · exact tr_pl ha X
      · exact list_pl hb e he
    · cases h
theorem snd_and (S : Snd g lvl C G n) (o : On g X) (x : XOk X B lvl) (hs : SlotR X.K F σ ρ) (pos : Pos) : ∀ {es : List Expr} {E : Exp} {k : Nat} {d : D}, trBool (tr n B) .and_ es = some E → ev C G E ρ = some (k, d) → ∀ b, d = .bl b →
    EvZ X (.BoolOp .And es pos) σ F (.bl b) ∧ EvW X (.BoolOp .And es pos) σ F b
  | [], E, k, d, h, q, b, eb => by cases h
  | [a], E, k, d, h, q, b, eb => by
    subst eb
    obtain ⟨h1, h2⟩ := S B a E h X o x σ F ρ hs k _ q
    exact ⟨(ev_one h1.z).z, ew_and1 (h2 b rfl)⟩
  | a :: c :: r, E, k, d, h, q, b, eb => by
    subst eb
    unfold trBool at h
    split at h
    · rename_i u w hu hw
      cases h
      simp only [ev] at q
      split at q
      · rename_i k1 hq1
        obtain ⟨h1, h2⟩ := S B a u hu X o x σ F ρ hs _ _ hq1
        split at q
        · rename_i k2 c2 hq2
          cases q
          obtain ⟨g1, g2⟩ := snd_and S o x hs pos hw hq2 _ rfl
          exact ⟨(ev_and h1.z (fun _ => g1) (fun z => nomatch z)).z, ew_and (h2 true rfl) (fun _ => g2) (fun z => nomatch z)⟩
        · cases q
      · rename_i k1 hq1
        cases q
        obtain ⟨h1, h2⟩ := S B a u hu X o x σ F ρ hs _ _ hq1
        exact ⟨(ev_and h1.z (fun z => nomatch z) (fun _ => rfl)).z, ew_and (h2 false rfl) (fun z => nomatch z) (fun _ => rfl)⟩
      · cases q
    · cases h
theorem snd_or (S : Snd g lvl C G n) (o : On g X) (x : XOk X B lvl) (hs : SlotR X.K F σ ρ) (pos : Pos) : ∀ {es : List Expr} {E : Exp} {k : Nat} {d : D}, trBool (tr n B) .or_ es = some E → ev C G E ρ = some (k, d) → ∀ b, d = .bl b →
    EvZ X (.BoolOp .Or es pos) σ F (.bl b) ∧ EvW X (.BoolOp .Or es pos) σ F b
  | [], E, k, d, h, q, b, eb => by cases h
  | [a], E, k, d, h, q, b, eb => by
    subst eb
    obtain ⟨h1, h2⟩ := S B a E h X o x σ F ρ hs k _ q
    exact ⟨(ev_one h1.z).z, ew_or1 (h2 b rfl)⟩
  | a :: c :: r, E, k, d, h, q, b, eb => by
    subst eb
    unfold trBool at h
    split at h
    · rename_i u w hu hw
      cases h
      simp only [ev] at q
      split at q
      · rename_i k1 hq1
        obtain ⟨h1, h2⟩ := S B a u hu X o x σ F ρ hs _ _ hq1
        split at q
        · rename_i k2 c2 hq2
          cases q
          obtain ⟨g1, g2⟩ := snd_or S o x hs pos hw hq2 _ rfl
          exact ⟨(ev_or h1.z (fun _ => g1) (fun z => nomatch z)).z, ew_or (h2 false rfl) (fun _ => g2) (fun z => nomatch z)⟩
        · cases q
      · rename_i k1 hq1
        cases q
        obtain ⟨h1, h2⟩ := S B a u hu X o x σ F ρ hs _ _ hq1
        exact ⟨(ev_or h1.z (fun z => nomatch z) (fun _ => rfl)).z, ew_or (h2 true rfl) (fun z => nomatch z) (fun _ => rfl)⟩
      · cases q
    · cases h
/-- a BoolOp gives a bool -/
theorem and_bool : ∀ {es : List Expr} {E : Exp} {k : Nat} {d : D}, 2 ≤ es.length → trBool (tr n B) .and_ es = some E → ev C G E ρ = some (k, d) → k = 0 ∧ ∃ b, d = .bl b
  | [], _, _, _, hl, _, _ => by simp at hl
  | [_], _, _, _, hl, _, _ => by simp at hl
  | a :: c :: r, E, k, d, _, h, q => by
    unfold trBool at h
    split at h
    · cases h
      simp only [ev] at q
      split at q
      · split at q
        · cases q; exact ⟨rfl, _, rfl⟩
        · cases q
      · cases q; exact ⟨rfl, _, rfl⟩
      · cases q
    · cases h
theorem or_bool : ∀ {es : List Expr} {E : Exp} {k : Nat} {d : D}, 2 ≤ es.length → trBool (tr n B) .or_ es = some E → ev C G E ρ = some (k, d) → k = 0 ∧ ∃ b, d = .bl b
  | [], _, _, _, hl, _, _ => by simp at hl
  | [_], _, _, _, hl, _, _ => by simp at hl
  | a :: c :: r, E, k, d, _, h, q => by
    unfold trBool at h
    split at h
    · cases h
      simp only [ev] at q
      split at q
      · split at q
        · cases q; exact ⟨rfl, _, rfl⟩
        · cases q
      · cases q; exact ⟨rfl, _, rfl⟩
      · cases q
    · cases h
theorem snd_part (S : Snd g lvl C G n) (o : On g X) (x : XOk X B lvl) (hs : SlotR X.K F σ ρ) {e : Option Expr} {E : Exp} {i : Option Int} (h : trPart (tr n B) e = some E) (q : evO C G E ρ = some i) :
    ∃ t : TO, PO X e t ∧ ∀ F1 H, Ex F F1 → Fh F1 H → ∀ Q : Option Int → Hp → Prop, (∀ F2 H2, Stp F1 H F2 H2 → Q i H2) → t σ H Q := by
  cases e with
  | none =>
    cases h
    simp only [evO, Option.some.injEq] at q
    subst q
    exact ⟨_, po_none, fun F1 H e1 e2 Q q => q F1 H (.refl e2)⟩
  | some e =>
    obtain ⟨a, ha, rfl⟩ := Option.map_eq_some_iff.mp (show (tr n B e).map .itr = some E from h)
    simp only [evO] at q
    split at q
    · rename_i k j hj
      cases q
      have := (S B e a ha X o x σ F ρ hs k _ hj).1.z
      refine ⟨_, po_some pe_W, fun F1 H e1 e2 Q q => this F1 H e1 e2 _ fun v F2 H2 st d1 => ?_⟩
      cases d1
      exact ⟨j, rfl, q F2 H2 st⟩
    · cases q
end
end PV

set_option Elab.async false
set_option linter.all false
set_option maxRecDepth 100000
set_option maxHeartbeats 4000000
/-! PV, part M: expressions are sound, the theorem. -/
namespace PV
open PySem PySem.Spec PyProof.Rows L2 LamX NdefX
variable [Tabl]
section
variable {g : G5} {lvl : Nat} {C : Fn → List D → List Str → List D → Option (Nat × D)} {G : Glo}
variable {n : Nat} {B : Blk} {X : Cx} {σ : L2.St} {F : Hp} {ρ : Ro}

/-- a walk over a dict -/
def isDicE (C : Fn → List D → List Str → List D → Option (Nat × D)) (G : Glo) (E : Exp) (ρ : Ro) : Bool := match E with
  | .itr e => match ev C G e ρ with
    | some (_, .dic _) => true
    | _ => false
  | .items _ => true
  | .vals _ => true
  | _ => false
theorem blt_none (hb : BltS g) (o : On g X) {f : Str} (h : f ∈ bltNames) : X.mg f = none := by rw [o.m]; exact hb f h
theorem snd_plainIter (S : Snd g lvl C G n) (o : On g X) (x : XOk X B lvl) (hs : SlotR X.K F σ ρ) {tg e : Expr} {A : Exp} {ds : List D} (h : tr n B e = some A) (q : evI C G (.itr A) ρ = some ds) (hd : isDicE C G (.itr A) ρ = false) : EvI X tg e σ F ds := by
  simp only [evI] at q
  unfold isDicE at hd
  split at q
  · rename_i k ds' he
    cases q
    exact ei_lst (S B e A h X o x σ F ρ hs _ _ he).1.z
  · rename_i k ds' he
    cases q
    exact ei_tup (S B e A h X o x σ F ρ hs _ _ he).1.z
  · rename_i k ds' he
    cases q
    exact ei_rot (S B e A h X o x σ F ρ hs _ _ he).1.z
  · rename_i k y he
    obtain ⟨hl, rfl⟩ := if_some q
    exact ei_str (S B e A h X o x σ F ρ hs _ _ he).1.z hl
  · rename_i k ds' he
    simp only [he] at hd
    cases hd
  · cases q
theorem snd_plainIterN (S : Snd g lvl C G n) (o : On g X) (x : XOk X B lvl) (hs : SlotR X.K F σ ρ) {tg e : Expr} {A : Exp} {ds : List D} (h : tr n B e = some A) (q : evI C G (.itn A) ρ = some ds) : EvI X tg e σ F ds := by
  simp only [evI] at q
  split at q
  · rename_i k ds' he
    cases q
    exact ei_lst (S B e A h X o x σ F ρ hs _ _ he).1.z
  · rename_i k ds' he
    cases q
    exact ei_tup (S B e A h X o x σ F ρ hs _ _ he).1.z
  · rename_i k ds' he
    cases q
    exact ei_rot (S B e A h X o x σ F ρ hs _ _ he).1.z
  · cases q
theorem snd_iter (S : Snd g lvl C G n) (hb : BltS g) (o : On g X) (x : XOk X B lvl) (hs : SlotR X.K F σ ρ) {tg e : Expr} {E : Exp} {ds : List D} (h : trIter (tr n B) B tg e = some E) (q : evI C G E ρ = some ds) (hd : isDicE C G E ρ = false) : EvI X tg e σ F ds := by
  have plain : ∀ {e : Expr}, (tr n B e).map Exp.itn = some E → EvI X tg e σ F ds := fun {e} h => by
    obtain ⟨A, hA, rfl⟩ := Option.map_eq_some_iff.mp h
    exact snd_plainIterN S o x hs hA q
  unfold trIter at h
  split at h
  · rename_i f p args kws pos
    split at h
    · rename_i hc
      obtain ⟨hg, hok, rfl⟩ := hc
      split at h
      · rename_i a
        obtain ⟨A, hA, rfl⟩ := Option.map_eq_some_iff.mp h
        simp only [evI] at q
        split at q
        · rename_i k m hm
          obtain ⟨⟨h1, h2⟩, rfl⟩ := if_some q
          exact ei_rng (gl_of x hg) (blt_none hb o (by decide)) (tr_pl hA X) (S B a A hA X o x σ F ρ hs _ _ hm).1.z h1 h2
        · cases q
      · cases h
    · split at h
      · rename_i hc
        obtain ⟨hg, hok, rfl, ht⟩ := hc
        split at h
        · rename_i a
          obtain ⟨A, hA, rfl⟩ := Option.map_eq_some_iff.mp h
          simp only [evI] at q
          split at q
          · rename_i k m hm
            cases q
            cases tg <;> try (cases ht)
            exact ei_enm (gl_of x hg) (blt_none hb o (by decide)) (tr_pl hA X) (S B a A hA X o x σ F ρ hs _ _ hm).1.z
          · cases q
        · cases h
      · split at h
        · rename_i hc
          obtain ⟨hg, hok, rfl, ht⟩ := hc
          split at h
          · rename_i a b
            split at h
            · rename_i A A' hA hA'
              cases h
              simp only [evI] at q
              split at q
              · rename_i k m k' m' hm hm'
                cases q
                cases tg <;> try (cases ht)
                exact ei_zip (gl_of x hg) (blt_none hb o (by decide)) (tr_pl hA X) (tr_pl hA' X) (S B a A hA X o x σ F ρ hs _ _ hm).1.z (S B b A' hA' X o x σ F ρ hs _ _ hm').1.z
              · cases q
            · cases h
          · cases h
        · exact plain h
  · split at h
    · obtain ⟨A, hA, rfl⟩ := Option.map_eq_some_iff.mp h
      cases hd
    · split at h
      · obtain ⟨A, hA, rfl⟩ := Option.map_eq_some_iff.mp h
        cases hd
      · exact plain h
  · obtain ⟨A, hA, rfl⟩ := Option.map_eq_some_iff.mp h
    exact snd_plainIter S o x hs hA q hd
  · exact plain h
theorem iter_fold {tg e : Expr} {E : Exp} (h : trIter (tr n B) B tg e = some E) (env : Env) (v : Value) : foldedSetIterable e env v = pure v := by
  cases e <;> first | rfl | (obtain ⟨A, hA, _⟩ := Option.map_eq_some_iff.mp (show (tr n B _).map Exp.itn = some E from h); exact tr_fold hA env v)
/-! ### comprehensions -/
theorem snd_ifs (S : Snd g lvl C G n) (o : On g X) (x : XOk X B lvl) {ifs : List Expr} {E : Exp} (h : trIfs (tr n B) ifs = some E) (hs : SlotR X.K F σ ρ) {k : Nat} {b : Bool} (q : ev C G E ρ = some (k, .bl b)) : EvTs X ifs σ F b := by
  unfold trIfs at h
  split at h
  · cases h
    simp only [ev, Option.some.injEq, Prod.mk.injEq, D.bl.injEq] at q
    rw [← q.2]
    exact ets_nil
  · exact ets_one ((S B _ E h X o x σ F ρ hs _ _ q).2 b rfl)
  · cases h
theorem all_mem {l m : List Nat} (h : l.all (fun i => decide (i ∈ m)) = true) : ∀ i ∈ l, i ∈ m := fun i hi => of_decide_eq_true (List.all_eq_true.mp h i hi)
/-- the readings of a comprehension's tests and elements, wherever its block stands -/
def ttB (X : Cx) (scope : Scope) (ifs : List Expr) : TT := fun σ H Q => ∀ s H' C cl fp, WTs (X.blk s H' scope (compEnvC scope cl C X.env) fp) ifs σ H Q
def teB (X : Cx) (scope : Scope) (e : Expr) : TE := fun σ H Q => ∀ s H' C cl fp, WE (X.blk s H' scope (compEnvC scope cl C X.env) fp) e σ H Q
theorem ptB {scope : Scope} {ifs : List Expr} (s : Shared) (H : Hp) (C : Addr) (cl : List (Str × Addr)) (fp : List Addr) : PTs (X.blk s H scope (compEnvC scope cl C X.env) fp) ifs (ttB X scope ifs) := ⟨fun pins s' σ' H'' Q' I hw => hw s H C cl fp pins s' I⟩
theorem peB {scope : Scope} {e : Expr} (s : Shared) (H : Hp) (C : Addr) (cl : List (Str × Addr)) (fp : List Addr) : PE (X.blk s H scope (compEnvC scope cl C X.env) fp) e (teB X scope e) := ⟨fun pins s' σ' H'' Q' I hw => hw s H C cl fp pins s' I⟩
theorem comp_lc (S : Snd g lvl C G n) (o : On g X) (x : XOk X B lvl) {elt tg iter : Expr} {ifs : List Expr} {scope : Scope} {t : Tg} {c y : Exp} {ds ys : List D} {W : TE}
    (hW : ∀ σ H Q, tLc (WI X tg iter) (gOf X.K t) (ttB X scope ifs) (teB X scope elt) ((ownOf B.N scope).map (·.2)) σ H Q → W σ H Q)
    (hc : trIfs (tr n (inner B scope)) ifs = some c) (hy : tr n (inner B scope) elt = some y) (hsub : (tgIdx t).all (fun i => decide (i ∈ (ownOf B.N scope).map (·.2))) = true)
    (hi : EvI X tg iter σ F ds) (hs : SlotR X.K F σ ρ) (q : lcL t (fun r => ev C G c r) (fun r => ev C G y r) (wipeR ρ ((ownOf B.N scope).map (·.2))) ds = some ys) : EvDW X.K W σ F 1 (.lst ys) := fun F1 H e1 e2 Q qq =>
  hW σ H Q (lc_read hi hs (all_mem hsub)
      (fun F' σ' ρ' b k ef hs' hb F1' H' f1 f2 Q' q' s H'' C cl fp => snd_ifs S (o.blk s H'' scope _ fp) (x.blk s H'' scope C cl fp) hc hs' hb F1' H' f1 f2 Q' q')
      (fun F' σ' ρ' k d ef hs' hd F1' H' f1 f2 Q' q' s H'' C cl fp => (S (inner B scope) elt y hy _ (o.blk s H'' scope _ fp) (x.blk s H'' scope C cl fp) σ' F' ρ' hs' k d hd).1.z F1' H' f1 f2 Q' q') q e1 e2 qq)
theorem we_lc (x : XOk X B lvl) {elt tg iter : Expr} {ifs : List Expr} {scope : Scope} {pos : Pos} {t : Tg} (hblk : blkC B.N B.sc scope (ownOf B.N scope) = true)
    (ht : trTg (inner B scope) tg = some t) (hf : ∀ v, foldedSetIterable iter X.env v = pure v) (σ : L2.St) (H : Hp) (Q : VK) (h : tLc (WI X tg iter) (gOf X.K t) (ttB X scope ifs) (teB X scope elt) ((ownOf B.N scope).map (·.2)) σ H Q) : WE X (.ListComp elt [⟨tg, iter, ifs, 0⟩] scope pos) σ H Q :=
  w_of (pe_lc x.calm (by rw [x.N_]; exact x.nd) pi_W (by rw [x.N_, x.sc_]; exact blkOk_by hblk) (fun s H' C cl fp => pg_of (x.blk s H' scope C cl fp) ht) ptB peB hf) h
theorem comp_dc (S : Snd g lvl C G n) (o : On g X) (x : XOk X B lvl) {kx vx tg iter : Expr} {ifs : List Expr} {scope : Scope} {t : Tg} {c y z : Exp} {ds : List D} {ys : List (Key × D)} {W : TE}
    (hW : ∀ σ H Q, tDc (WI X tg iter) (gOf X.K t) (ttB X scope ifs) (teB X scope kx) (teB X scope vx) ((ownOf B.N scope).map (·.2)) σ H Q → W σ H Q)
    (hc : trIfs (tr n (inner B scope)) ifs = some c) (hy : tr n (inner B scope) kx = some y) (hz : tr n (inner B scope) vx = some z) (hsub : (tgIdx t).all (fun i => decide (i ∈ (ownOf B.N scope).map (·.2))) = true)
    (hi : EvI X tg iter σ F ds) (hs : SlotR X.K F σ ρ) (q : dcL t (fun r => ev C G c r) (fun r => ev C G y r) (fun r => ev C G z r) (wipeR ρ ((ownOf B.N scope).map (·.2))) ds [] = some ys) : EvDW X.K W σ F 1 (.dic ys) := fun F1 H e1 e2 Q qq =>
  hW σ H Q (dc_read hi hs (all_mem hsub)
      (fun F' σ' ρ' b k ef hs' hb F1' H' f1 f2 Q' q' s H'' C cl fp => snd_ifs S (o.blk s H'' scope _ fp) (x.blk s H'' scope C cl fp) hc hs' hb F1' H' f1 f2 Q' q')
      (fun F' σ' ρ' k d ef hs' hd F1' H' f1 f2 Q' q' s H'' C cl fp => (S (inner B scope) kx y hy _ (o.blk s H'' scope _ fp) (x.blk s H'' scope C cl fp) σ' F' ρ' hs' k d hd).1.z F1' H' f1 f2 Q' q')
      (fun F' σ' ρ' k d ef hs' hd F1' H' f1 f2 Q' q' s H'' C cl fp => (S (inner B scope) vx z hz _ (o.blk s H'' scope _ fp) (x.blk s H'' scope C cl fp) σ' F' ρ' hs' k d hd).1.z F1' H' f1 f2 Q' q') q e1 e2 qq)
theorem we_dc (x : XOk X B lvl) {kx vx tg iter : Expr} {ifs : List Expr} {scope : Scope} {pos : Pos} {t : Tg} (hblk : blkC B.N B.sc scope (ownOf B.N scope) = true)
    (ht : trTg (inner B scope) tg = some t) (hf : ∀ v, foldedSetIterable iter X.env v = pure v) (σ : L2.St) (H : Hp) (Q : VK) (h : tDc (WI X tg iter) (gOf X.K t) (ttB X scope ifs) (teB X scope kx) (teB X scope vx) ((ownOf B.N scope).map (·.2)) σ H Q) : WE X (.DictComp kx vx [⟨tg, iter, ifs, 0⟩] scope pos) σ H Q :=
  w_of (pe_dc x.calm (by rw [x.N_]; exact x.nd) pi_W (by rw [x.N_, x.sc_]; exact blkOk_by hblk) (fun s H' C cl fp => pg_of (x.blk s H' scope C cl fp) ht) ptB peB peB hf) h
theorem comp_dco (S : Snd g lvl C G n) (o : On g X) (x : XOk X B lvl) {kx vx tg iter : Expr} {ifs : List Expr} {scope : Scope} {t : Tg} {c y z : Exp} {ds : List D} {ys : List (Key × D)} {W : TE}
    (hW : ∀ σ H Q, tDc (WI X tg iter) (gOf X.K t) (ttB X scope ifs) (teB X scope kx) (teB X scope vx) ((ownOf B.N scope).map (·.2)) σ H Q → W σ H Q)
    (hc : trIfs (tr n (inner B scope)) ifs = some c) (hy : tr n (inner B scope) kx = some y) (hz : tr n (inner B scope) vx = some z) (hsub : (tgIdx t).all (fun i => decide (i ∈ (ownOf B.N scope).map (·.2))) = true)
    (hi : EvI X tg iter σ F ds) (hs : SlotR X.K F σ ρ) (q : dcoL t (fun r => ev C G c r) (fun r => ev C G y r) (fun r => ev C G z r) (wipeR ρ ((ownOf B.N scope).map (·.2))) ds [] = some ys) : EvDW X.K W σ F 2 (.dic ys) := fun F1 H e1 e2 Q qq =>
  hW σ H Q (dco_read hi hs (all_mem hsub)
      (fun F' σ' ρ' b k ef hs' hb F1' H' f1 f2 Q' q' s H'' C cl fp => snd_ifs S (o.blk s H'' scope _ fp) (x.blk s H'' scope C cl fp) hc hs' hb F1' H' f1 f2 Q' q')
      (fun F' σ' ρ' k d ef hs' hd F1' H' f1 f2 Q' q' s H'' C cl fp => (S (inner B scope) kx y hy _ (o.blk s H'' scope _ fp) (x.blk s H'' scope C cl fp) σ' F' ρ' hs' k d hd).1.z F1' H' f1 f2 Q' q')
      (fun F' σ' ρ' k d ef hs' hd F1' H' f1 f2 Q' q' s H'' C cl fp => (S (inner B scope) vx z hz _ (o.blk s H'' scope _ fp) (x.blk s H'' scope C cl fp) σ' F' ρ' hs' k d hd).1 F1' H' f1 f2 Q' q') q e1 e2 qq)
/-- a name's value -/
theorem name_read (hg : GloS g G) (o : On g X) (x : XOk X B lvl) (hs : SlotR X.K F σ ρ) {y : Str} {pos : Pos} {A : Exp} {k : Nat} {d : D} (h : tr n B (.Name y pos) = some A) (q : ev C G A ρ = some (k, d)) (hd : imm d = false) : ∃ v, Dat X.K F v d ∧ ∀ (H : Hp) (Q : VK), Q v H → WE X (.Name y pos) σ H Q := by
  cases n with
  | zero => cases h
  | succ n =>
    unfold tr at h
    dsimp only at h
    split at h
    · rename_i hok
      obtain ⟨h1, h2, h3⟩ := ok_dbg hok
      split at h
      · rename_i hv
        obtain ⟨i, hi, rfl⟩ := Option.map_eq_some_iff.mp h
        simp only [ev] at q
        split at q
        · rename_i d' hd'
          cases q
          obtain ⟨v, hv1, hv2⟩ := hs.at_ i _ hd'
          exact ⟨v, hv2, fun H Q qq => w_of (pe_var (by rw [x.N_]; exact slotOf_get hi) (by rw [x.sc_]; exact vis_of hv) h1 h2) ⟨_, hv1, qq⟩⟩
        · cases q
      · split at h
        · rename_i hgl
          cases h
          simp only [ev] at q
          obtain ⟨d', hd', e⟩ := Option.map_eq_some_iff.mp q
          cases e
          obtain ⟨v, u, a1, a2, a3⟩ := hg.v _ _ hd'
          exact ⟨v, by rw [o.k]; exact a3 F, fun H Q qq => w_of (pe_glob (gl_of x hgl) (by rw [o.m]; exact a1) a2 h1) qq⟩
        · cases h
    · cases h
/-- a dict that a name, or a name's field, tells -/
theorem path_read (hg : GloS g G) (o : On g X) (x : XOk X B lvl) (hs : SlotR X.K F σ ρ) {e : Expr} {A : Exp} {k : Nat} {kvs : List (Key × D)} (hp : pathB e = true) (h : tr n B e = some A) (q : ev C G A ρ = some (k, .dic kvs)) :
    ∃ p ws, Rd F p (.dK ws) ∧ ws.map (·.1) = kvs.map (·.1) ∧ Dats X.K F (ws.map (·.2)) (kvs.map (·.2)) ∧ kvs.length ≤ cap ∧ ∀ F', (F' = F ∨ ∃ od, Lkd p od ws F F') → ∀ F1 H, Ex F' F1 → Fh F1 H → ∀ Q : VK, Q (.ref p) H → WE X e σ H Q := by
  unfold pathB at hp
  split at hp
  · obtain ⟨v, dv, rd⟩ := name_read hg o x hs h q rfl
    cases dv with
    | dic g1 g2 g3 g4 => exact ⟨_, _, g1, g2, g3, g4, fun F' _ F1 H _ _ Q qq => rd H Q qq⟩
  · rename_i y ny f pos
    cases n with
    | zero => cases h
    | succ n =>
      unfold tr at h
      dsimp only at h
      split at h
      · obtain ⟨A', hA', rfl⟩ := Option.map_eq_some_iff.mp h
        simp only [ev] at q
        split at q
        · rename_i k' c fs hA
          split at q
          · rename_i hf
            obtain ⟨d', hl, e⟩ := Option.map_eq_some_iff.mp q
            cases e
            obtain ⟨v, dv, rd⟩ := name_read hg o x hs hA' hA rfl
            cases dv with
            | ins g1 g2 g3 g4 g5 =>
              rename_i a Ca dx fs'
              rcases lookup_dats (f := f) g4 g5 with ⟨z1, z2⟩ | ⟨d2, v2, z1, z2, dv2⟩
              · rw [z1] at hl; cases hl
              · rw [z1] at hl; cases hl
                obtain ⟨c1, c2⟩ := hg.fld c f hf _ (by rw [← o.k]; exact g3)
                cases dv2 with
                | dic a1 a2 a3 a4 =>
                  refine ⟨_, _, a1, a2, a3, a4, fun F' hF F1 H e1 e2 Q qq => ?_⟩
                  have hi : H a = some (.ins Ca dx fs') := by
                    refine e2.get (e1.get ?_)
                    rcases hF with rfl | ⟨od, l⟩
                    · exact g1
                    · exact l.plain g1 fun _ z => nomatch z
                  exact w_of (pe_fld pe_W rfl) (rd H _ ⟨a, Ca, dx, fs', _, rfl, hi, by rw [o.k]; exact c1, by rw [o.k]; exact c2, z2, qq⟩)
          · cases q
        · cases q
      · cases h
  · cases hp
theorem iter_dic {tg e : Expr} {E : Exp} {ds : List D} (h : trIter (tr n B) B tg e = some E) (q : evI C G E ρ = some ds) (hd : isDicE C G E ρ = true) :
    (∃ y pos k A kvs, e = .Name y pos ∧ tr n B e = some A ∧ ev C G A ρ = some (k, .dic kvs) ∧ ds = kvs.map fun kv => dOfKey kv.1) ∨
    (∃ o apos cpos k A kvs, e = .Call (.Attribute o "items" apos) [] [] cpos ∧ pathB o = true ∧ (apos.endLine == cpos.line) = true ∧ isTupE tg = true ∧ tr n B o = some A ∧ ev C G A ρ = some (k, .dic kvs) ∧ ds = itemsD kvs) ∨
    (∃ o apos cpos k A kvs, e = .Call (.Attribute o "values" apos) [] [] cpos ∧ pathB o = true ∧ (apos.endLine == cpos.line) = true ∧ tr n B o = some A ∧ ev C G A ρ = some (k, .dic kvs) ∧ ds = kvs.map (·.2)) := by
  unfold trIter at h
  split at h
  · split at h
    · split at h
      · obtain ⟨_, _, rfl⟩ := Option.map_eq_some_iff.mp h; cases hd
      · cases h
    · split at h
      · split at h
        · obtain ⟨_, _, rfl⟩ := Option.map_eq_some_iff.mp h; cases hd
        · cases h
      · split at h
        · split at h
          · split at h
            · cases h; cases hd
            · cases h
          · cases h
        · obtain ⟨_, _, rfl⟩ := Option.map_eq_some_iff.mp h; cases hd
  · rename_i ob m apos args kws cpos
    split at h
    · rename_i hc
      obtain ⟨rfl, hp, hl, ht, ha, hk⟩ := hc
      obtain rfl : args = [] := by simpa using ha
      obtain rfl : kws = [] := by simpa using hk
      obtain ⟨A, hA, rfl⟩ := Option.map_eq_some_iff.mp h
      simp only [evI] at q
      split at q
      · rename_i k kvs he
        cases q
        exact .inr (.inl ⟨ob, apos, cpos, k, A, kvs, rfl, hp, hl, ht, hA, he, rfl⟩)
      · cases q
    · split at h
      · rename_i hc
        obtain ⟨rfl, hp, hl, ha, hk⟩ := hc
        obtain rfl : args = [] := by simpa using ha
        obtain rfl : kws = [] := by simpa using hk
        obtain ⟨A, hA, rfl⟩ := Option.map_eq_some_iff.mp h
        simp only [evI] at q
        split at q
        · rename_i k kvs he
          cases q
          exact .inr (.inr ⟨ob, apos, cpos, k, A, kvs, rfl, hp, hl, hA, he, rfl⟩)
        · cases q
      · obtain ⟨_, _, rfl⟩ := Option.map_eq_some_iff.mp h; cases hd
  · rename_i y p
    obtain ⟨A, hA, rfl⟩ := Option.map_eq_some_iff.mp h
    unfold isDicE at hd
    dsimp only at hd
    split at hd
    · rename_i k kvs he
      simp only [evI, he] at q
      split at q
      · cases q
        exact .inl ⟨y, p, k, _, kvs, rfl, hA, he, rfl⟩
      · cases q
    · cases hd
  · obtain ⟨_, _, rfl⟩ := Option.map_eq_some_iff.mp h; cases hd
/-- a comprehension, over a dict too -/
theorem comp_any (x : XOk X B lvl) (hb : BltS g) (hg : GloS g G) (S : Snd g lvl C G n) (o : On g X) (hs : SlotR X.K F σ ρ) {tg iter : Expr} {E : Exp} {ds : List D} {k : Nat} {d : D} {W : TE} (lk : Lockable W) (h : trIter (tr n B) B tg iter = some E) (q : evI C G E ρ = some ds)
    (go : ∀ F', SlotR X.K F' σ ρ → EvI X tg iter σ F' ds → EvDW X.K W σ F' k d) : EvDW X.K W σ F k d := by
  cases hd : isDicE C G E ρ with
  | false => exact go F hs (snd_iter S hb o x hs h q hd)
  | true =>
    have main : ∀ {ob : Expr} {A : Exp} {kk : Nat} {kvs : List (Key × D)}, pathB ob = true → tr n B ob = some A → ev C G A ρ = some (kk, .dic kvs) →
        (∀ F' p od ws, F' p = some (.frz od (.dK ws)) → ws.map (·.1) = kvs.map (·.1) → Dats X.K F' (ws.map (·.2)) (kvs.map (·.2)) → kvs.length ≤ cap → (∀ F1 H, Ex F' F1 → Fh F1 H → ∀ Q : VK, Q (.ref p) H → WE X ob σ H Q) → EvI X tg iter σ F' ds) → EvDW X.K W σ F k d := fun {ob A kk kvs} hp hA he wk => by
      obtain ⟨p, ws, g1, g2, g3, g4, rd⟩ := path_read hg o x hs hp hA he
      rcases g1 with g1 | ⟨od, g1⟩
      · refine ev_lock lk g1 fun od => ?_
        have l : Lkd p od ws F (upd F p (.frz od (.dK ws))) := .of g1
        refine go _ ⟨hs.len, fun j d' hj => ?_⟩ (wk _ p od ws upd_same g2 (l.dats g3) g4 (rd _ (.inr ⟨od, l⟩)))
        obtain ⟨v', hv', dv'⟩ := hs.at_ j d' hj
        exact ⟨v', hv', l.dat dv'⟩
      · exact go F hs (wk F p od ws g1 g2 g3 g4 (rd F (.inl rfl)))
    rcases iter_dic h q hd with ⟨y, pos, kk, A, kvs, rfl, hA, he, rfl⟩ | ⟨ob, apos, cpos, kk, A, kvs, rfl, hp, hl, ht, hA, he, rfl⟩ | ⟨ob, apos, cpos, kk, A, kvs, rfl, hp, hl, hA, he, rfl⟩
    · exact main rfl hA he fun F' p od ws f1 f2 f3 f4 rd => ei_keys rd f1 f2 f4
    · cases tg <;> try (cases ht)
      exact main hp hA he fun F' p od ws f1 f2 f3 f4 rd => ei_items rd (base_of (by cases ob <;> first | rfl | cases hp) _ _ _) hl f1 f2 f3 f4
    · exact main hp hA he fun F' p od ws f1 f2 f3 f4 rd => ei_vals rd (base_of (by cases ob <;> first | rfl | cases hp) _ _ _) hl f1 f2 f3 f4
end
end PV

set_option Elab.async false
set_option linter.all false
set_option maxRecDepth 100000
set_option maxHeartbeats 4000000
/-! PV, part N: expressions are sound, the induction. -/
namespace PV
open PySem PySem.Spec PyProof.Rows L2 LamX NdefX
variable [Tabl]
section
variable {g : G5} {lvl : Nat} {C : Fn → List D → List Str → List D → Option (Nat × D)} {G : Glo}
variable {n : Nat} {B : Blk} {X : Cx} {σ : L2.St} {F : Hp} {ρ : Ro}
/-- list(d), the dict locked or not -/
theorem list_dic {H : Hp} {p : Addr} {kvs : List (Key × V)} {Q : VK} (hc : X.calm = true) (h : Rd H p (.dK kvs)) (q : ∀ l, H l = none → Q (.ref l) (upd H l (.lst (kvs.map fun kv => kV kv.1)))) : WC X (.type "list") [.ref p] H Q := by
  intro pins s σ us I r
  obtain ⟨u, rfl, rx⟩ := vals1 r
  obtain rfl : u = Value.ref p := rx
  obtain ⟨z, lo, vs, rk, hd⟩ := dk_rd I.hok h
  obtain ⟨ep, hat⟩ := hd.dictAt
  have hl : kvs.length = vs.length := Paired.length rk
  refine PySem.W.kdl_call (PySem.W.kdl_dict (knd := mixKind X.prog X.w) (kvs := vs) (ep := ep) lo) (I.ok.hd hc) hat (by rw [← hl]; exact z) fun h' tk acc' c' hkeep hS hacc => ?_
  refine ⟨.ref s.heap.objs.size, upd H s.heap.objs.size (.lst (kvs.map fun kv => kV kv.1)), I.laid hkeep (Nat.le_refl _) (show ObjOk X.prog X.w _ _ _ (.lst (kvs.map fun kv => kV kv.1)) from ⟨?_, acc'.toList, c', ?_, ?_⟩), rfl, q _ (I.hok.fresh (Nat.le_refl _))⟩
  · rw [List.length_map]; exact z
  · have el : acc'.toList.length = acc'.size := by simp
    refine vals_of_at (by rw [List.length_map, el, hacc.1, hl]) fun j x w h1 h2 => ?_
    obtain ⟨k, y, hky, hi⟩ := hacc.2 j w (by rw [← Array.getElem?_toList]; exact h2)
    have e1 : (kvs.map (·.1))[j]? = some k := by
      rw [KV.keys rk, List.getElem?_map, hky] <;> rfl
    have e2 : (kvs.map fun kv => kV kv.1)[j]? = some (kV k) := by
      have e3 : (kvs.map fun kv => kV kv.1) = (kvs.map (·.1)).map kV := by rw [List.map_map] <;> rfl
      rw [e3, List.getElem?_map, e1] <;> rfl
    rw [e2] at h1
    cases h1
    exact keyIs_rel hi
  · rw [Array.toArray_toList]; exact hS
theorem inv_lenset {d' d : D} {k : Nat} (h : bltD .lenset d' = some (k, d)) : ∃ ds, d' = .lst ds ∧ k = 0 ∧ ((∃ ns, intsD ds = some ns ∧ ns.length ≤ 4000 ∧ d = .int (setSize ns)) ∨ ∃ xs, strsD ds = some xs ∧ xs.length ≤ 60 ∧ d = .int (unlikeS xs : Nat)) := by
  cases d' <;> try (cases (show (none : Option (Nat × D)) = some (k, d) from h))
  rename_i ds
  simp only [bltD] at h
  split at h
  · rename_i ns hns
    obtain ⟨hl, e⟩ := if_some h
    cases e
    exact ⟨ds, rfl, rfl, .inl ⟨ns, hns, hl, rfl⟩⟩
  · split at h
    · rename_i xs hxs
      obtain ⟨hl, e⟩ := if_some h
      cases e
      exact ⟨ds, rfl, rfl, .inr ⟨xs, hxs, hl, rfl⟩⟩
    · cases h
theorem inv_listvals {d' d : D} {k : Nat} (h : bltD .listvals d' = some (k, d)) : ∃ kvs, d' = .dic kvs ∧ k = 1 ∧ d = .lst (kvs.map (·.2)) := by
  cases d' <;> try (cases (show (none : Option (Nat × D)) = some (k, d) from h))
  cases h
  exact ⟨_, rfl, rfl, rfl⟩
theorem inv_all {d' d : D} {k : Nat} (h : bltD .all d' = some (k, d)) : ∃ ds bs, d' = .lst ds ∧ bools ds = some bs ∧ k = 0 ∧ d = .bl (bs.all id) := by
  cases d' <;> try (cases (show (none : Option (Nat × D)) = some (k, d) from h))
  rename_i ds
  obtain ⟨bs, hbs, e⟩ := Option.map_eq_some_iff.mp (show (bools ds).map (fun bs => (0, D.bl (bs.all id))) = some (k, d) from h)
  cases e
  exact ⟨ds, bs, rfl, hbs, rfl, rfl⟩
theorem inv_any {d' d : D} {k : Nat} (h : bltD .any d' = some (k, d)) : ∃ ds bs, d' = .lst ds ∧ bools ds = some bs ∧ k = 0 ∧ d = .bl (bs.any id) := by
  cases d' <;> try (cases (show (none : Option (Nat × D)) = some (k, d) from h))
  rename_i ds
  obtain ⟨bs, hbs, e⟩ := Option.map_eq_some_iff.mp (show (bools ds).map (fun bs => (0, D.bl (bs.any id))) = some (k, d) from h)
  cases e
  exact ⟨ds, bs, rfl, hbs, rfl, rfl⟩
theorem snd_call (S : Snd g lvl C G n) (hc : CallS g lvl C) (hgl : GloS g G) (hb : BltS g) (o : On g X) (x : XOk X B lvl) (hs : SlotR X.K F σ ρ) {f : Str} {args : List Expr} {kws : List Keyword} {p pos : Pos} {E : Exp} {k : Nat} {d : D}
    (h : trCall (tr n B) B f args kws = some E) (q : ev C G E ρ = some (k, d)) : EvD X (.Call (.Name f p) args kws pos) σ F k d := by
  have hu : X.A.units + 64 < cLine := x.room.units
  unfold trCall at h
  split at h
  · rename_i hglo
    obtain ⟨hg, hok⟩ := hglo
    obtain ⟨ok1, ok2, ok3⟩ := ok_dbg hok
    split at h
    · rename_i hmem
      have hm := blt_none hb o hmem
      split at h
      · rename_i a
        split at h
        · rename_i ef
          subst ef
          split at h
          · rename_i b hset
            split at h
            · rename_i hg2
              obtain ⟨A, hA, rfl⟩ := Option.map_eq_some_iff.mp h
              simp only [ev] at q
              split at q
              · rename_i k' d' hd'
                cases a <;> try (cases (show (none : Option Expr) = some b from hset))
                rename_i f2 as2 ks2 pos2
                unfold isSetCall at hset
                split at hset
                · rename_i a' g' p' a'' pos' heq
                  cases heq
                  obtain ⟨hgs, rfl⟩ := if_some hset
                  subst hgs
                  obtain ⟨ds, rfl, rfl, ⟨ns, hns, hl, rfl⟩ | ⟨xs, hxs, hl, rfl⟩⟩ := inv_lenset q
                  · exact ev_lenset (gl_of x hg) hm (gl_of x hg2) (blt_none hb o (by decide)) x.calm (tr_pl hA X) (S B _ A hA X o x σ F ρ hs _ _ hd').1.z hns hl
                  · exact ev_lensetS (gl_of x hg) hm (gl_of x hg2) (blt_none hb o (by decide)) x.calm (tr_pl hA X) (S B _ A hA X o x σ F ρ hs _ _ hd').1.z hxs hl
                · cases hset
              · cases q
            · cases h
          · obtain ⟨A, hA, rfl⟩ := Option.map_eq_some_iff.mp h
            simp only [ev] at q
            split at q
            · rename_i k' d' hd'
              obtain ⟨m, hm', e⟩ := Option.map_eq_some_iff.mp (show (lenD d').map (fun n => (0, D.int n)) = some (k, d) from q)
              cases e
              exact ev_callB (gl_of x hg) hm boot_len ok3 ok1 (tr_pl hA X) (S B _ A hA X o x σ F ρ hs _ _ hd').1.z fun F1 H F2 H2 v Q _ st d1 q => len_ok st.fh d1 hm' (give q st (.int _))
            · cases q
        · split at h
          · rename_i ef
            subst ef
            split at h
            · rename_i b hval
              obtain ⟨A, hA, rfl⟩ := Option.map_eq_some_iff.mp h
              simp only [ev] at q
              split at q
              · rename_i k' d' hd'
                unfold isValues at hval
                split at hval
                · obtain ⟨⟨rfl, hl, hbs⟩, rfl⟩ := if_some hval
                  obtain ⟨kvs, rfl, rfl, rfl⟩ := inv_listvals q
                  exact ev_listvals x.calm (gl_of x hg) hm (base_of hbs _ _ _) hl (S B _ A hA X o x σ F ρ hs _ _ hd').1.z
                · cases hval
              · cases q
            · obtain ⟨A, hA, rfl⟩ := Option.map_eq_some_iff.mp h
              simp only [ev] at q
              split at q
              · rename_i k' d' hd'
                refine ev_callTy (gl_of x hg) hm (show bootBuiltins "list" = some (.type "list") by decide +kernel) ok3 ok1 (tr_pl hA X) (S B _ A hA X o x σ F ρ hs _ _ hd').1.z fun F1 H F2 H2 v Q _ st d1 qq => ?_
                cases d1 <;> try (cases (show (none : Option (Nat × D)) = some (k, d) from q))
                · rename_i h1 h2 h3
                  cases q
                  exact wc_of call_list_of ⟨_, _, rfl, .inl (.of (st.fh.get h1)), fun l hl => give_lst qq st hl h2 h3⟩
                · rename_i h1 h2 h3
                  cases q
                  exact wc_of call_list_of ⟨_, _, rfl, .inr (.of (st.fh.get h1)), fun l hl => give_lst qq st hl h2 h3⟩
                · rename_i h1 h2 h3
                  cases q
                  exact wc_of call_list_of ⟨_, _, rfl, .inr (ex_t st.fh h1), fun l hl => give_lst qq st hl h2 h3⟩
                · rename_i h1 h2 h3 h4
                  cases q
                  rename_i kvs ds
                  intro pins s σ' us I rv
                  obtain ⟨u, rfl, r⟩ := vals1 rv
                  exact list_dic x.calm (ex_rd st.fh h1) (fun l hl => give_lst qq st hl (keys_dats h2) (by rw [List.length_map]; exact h4)) pins s σ' _ I rv
              · cases q
          · split at h
            · rename_i ef
              subst ef
              obtain ⟨A, hA, rfl⟩ := Option.map_eq_some_iff.mp h
              simp only [ev] at q
              split at q
              · rename_i k' d' hd'
                obtain ⟨ds, bs, rfl, hbs, rfl, rfl⟩ := inv_all q
                refine ev_callB (gl_of x hg) hm (show bootBuiltins "all" = some (.builtin "all") by decide +kernel) ok3 ok1 (tr_pl hA X) (S B _ A hA X o x σ F ρ hs _ _ hd').1.z fun F1 H F2 H2 v Q _ st d1 qq => ?_
                cases d1 with
                | lst h1 h2 h3 => exact wc_of (cr_all x.calm) ⟨_, bs, rfl, by rw [← bools_dats h2 hbs]; exact .of (st.fh.get h1), give qq st (.bl _)⟩
              · cases q
            · split at h
              · rename_i ef
                subst ef
                obtain ⟨A, hA, rfl⟩ := Option.map_eq_some_iff.mp h
                simp only [ev] at q
                split at q
                · rename_i k' d' hd'
                  obtain ⟨ds, bs, rfl, hbs, rfl, rfl⟩ := inv_any q
                  refine ev_callB (gl_of x hg) hm (show bootBuiltins "any" = some (.builtin "any") by decide +kernel) ok3 ok1 (tr_pl hA X) (S B _ A hA X o x σ F ρ hs _ _ hd').1.z fun F1 H F2 H2 v Q _ st d1 qq => ?_
                  cases d1 with
                  | lst h1 h2 h3 => exact wc_of (cr_any x.calm) ⟨_, bs, rfl, by rw [← bools_dats h2 hbs]; exact .of (st.fh.get h1), give qq st (.bl _)⟩
                · cases q
              · split at h
                · rename_i ef
                  subst ef
                  obtain ⟨A, hA, rfl⟩ := Option.map_eq_some_iff.mp h
                  simp only [ev] at q
                  split at q
                  · rename_i k' d' hd'
                    refine ev_callTy (gl_of x hg) hm (show bootBuiltins "tuple" = some (.type "tuple") by decide +kernel) ok3 ok1 (tr_pl hA X) (S B _ A hA X o x σ F ρ hs _ _ hd').1.z fun F1 H F2 H2 v Q _ st d1 qq => ?_
                    cases d1 <;> try (cases (show (none : Option (Nat × D)) = some (k, d) from q))
                    · rename_i h1 h2 h3
                      cases q
                      exact wc_of call_tuple_of ⟨_, _, rfl, .inl ⟨.of (st.fh.get h1), fun l hl => give_tup qq st hl h2 h3⟩⟩
                    · rename_i h1 h2 h3
                      cases q
                      exact wc_of call_tuple_of ⟨_, _, rfl, .inr ⟨.of (st.fh.get h1), give qq st (.tup h1 h2 h3)⟩⟩
                  · cases q
                · split at h
                  · rename_i ef
                    subst ef
                    obtain ⟨A, hA, rfl⟩ := Option.map_eq_some_iff.mp h
                    simp only [ev] at q
                    split at q
                    · rename_i k' d' hd'
                      cases d' <;> try (cases (show (none : Option (Nat × D)) = some (k, d) from q))
                      simp only [bltD] at q
                      split at q
                      · rename_i ns hns
                        obtain ⟨m, hmx, e⟩ := Option.map_eq_some_iff.mp q
                        cases e
                        exact ev_callB (gl_of x hg) hm (show bootBuiltins "max" = some (.builtin "max") by decide +kernel) ok3 ok1 (tr_pl hA X) (S B _ A hA X o x σ F ρ hs _ _ hd').1.z fun F1 H F2 H2 v Q _ st d1 qq => max_ok x.calm st.fh d1 hns hmx (give qq st (.int _))
                      · cases q
                    · cases q
                  · split at h
                    · rename_i ef
                      subst ef
                      obtain ⟨A, hA, rfl⟩ := Option.map_eq_some_iff.mp h
                      simp only [ev] at q
                      split at q
                      · rename_i k' d' hd'
                        cases d' <;> try (cases (show (none : Option (Nat × D)) = some (k, d) from q))
                        simp only [bltD] at q
                        split at q
                        · rename_i ns hns
                          obtain ⟨m, hmx, e⟩ := Option.map_eq_some_iff.mp q
                          cases e
                          exact ev_callB (gl_of x hg) hm (show bootBuiltins "min" = some (.builtin "min") by decide +kernel) ok3 ok1 (tr_pl hA X) (S B _ A hA X o x σ F ρ hs _ _ hd').1.z fun F1 H F2 H2 v Q _ st d1 qq => min_ok x.calm st.fh d1 hns hmx (give qq st (.int _))
                        · cases q
                      · cases q
                    · split at h
                      · rename_i ef
                        subst ef
                        obtain ⟨A, hA, rfl⟩ := Option.map_eq_some_iff.mp h
                        simp only [ev] at q
                        split at q
                        · rename_i k' d' hd'
                          exact ev_callB (gl_of x hg) hm boot_sorted ok3 ok1 (tr_pl hA X) (S B _ A hA X o x σ F ρ hs _ _ hd').1.z fun F1 H F2 H2 v Q _ st d1 qq => sorted_ok x.calm st d1 q qq
                        · cases q
                      · split at h
                        · rename_i ef
                          subst ef
                          obtain ⟨A, hA, rfl⟩ := Option.map_eq_some_iff.mp h
                          simp only [ev] at q
                          split at q
                          · rename_i k' d' hd'
                            cases d' <;> try (cases (show (none : Option (Nat × D)) = some (k, d) from q))
                            cases q
                            exact ev_callTy (gl_of x hg) hm (show bootBuiltins "dict" = some (.type "dict") by decide +kernel) ok3 ok1 (tr_pl hA X) (S B _ A hA X o x σ F ρ hs _ _ hd').1.z fun F1 H F2 H2 v Q _ st d1 qq => dict_ok st d1 qq
                          · cases q
                        · cases h
      · rename_i a b
        split at h
        · rename_i ef
          subst ef
          split at h
          · rename_i T hT
            cases b <;> try (cases (show (none : Option Str) = some T from hT))
            cases hT
            split at h
            · rename_i hgT
              obtain ⟨t1, t2, t3⟩ := ok_dbg hgT.2
              split at h
              · rename_i t ht
                obtain ⟨A, hA, rfl⟩ := Option.map_eq_some_iff.mp h
                simp only [ev] at q
                split at q
                · rename_i k' d' hd'
                  have hz := (S B _ A hA X o x σ F ρ hs _ _ hd').1.z
                  unfold tyOf at ht
                  split at ht
                  · rename_i e; subst e; cases ht; obtain ⟨hni, rfl, rfl⟩ := tyIs_some q
                    exact ev_isi (gl_of x hg) hm (gl_of x hgT.1) (blt_none hb o (by decide)) (show bootBuiltins "int" = some (.type "int") by decide +kernel) t3 t1 (tr_pl hA X) hz hni (ty_int d' hni)
                  · split at ht
                    · rename_i e; subst e; cases ht; obtain ⟨hni, rfl, rfl⟩ := tyIs_some q
                      exact ev_isi (gl_of x hg) hm (gl_of x hgT.1) (blt_none hb o (by decide)) (show bootBuiltins "bool" = some (.type "bool") by decide +kernel) t3 t1 (tr_pl hA X) hz hni (ty_bool d' hni)
                    · split at ht
                      · rename_i e; subst e; cases ht; obtain ⟨hni, rfl, rfl⟩ := tyIs_some q
                        exact ev_isi (gl_of x hg) hm (gl_of x hgT.1) (blt_none hb o (by decide)) (show bootBuiltins "list" = some (.type "list") by decide +kernel) t3 t1 (tr_pl hA X) hz hni (ty_list d' hni)
                      · split at ht
                        · rename_i e; subst e; cases ht; obtain ⟨hni, rfl, rfl⟩ := tyIs_some q
                          exact ev_isi (gl_of x hg) hm (gl_of x hgT.1) (blt_none hb o (by decide)) (show bootBuiltins "tuple" = some (.type "tuple") by decide +kernel) t3 t1 (tr_pl hA X) hz hni (ty_tuple d' hni)
                        · split at ht
                          · rename_i e; subst e; cases ht; obtain ⟨hni, rfl, rfl⟩ := tyIs_some q
                            exact ev_isi (gl_of x hg) hm (gl_of x hgT.1) (blt_none hb o (by decide)) (show bootBuiltins "str" = some (.type "str") by decide +kernel) t3 t1 (tr_pl hA X) hz hni (ty_str d' hni)
                          · cases ht
                · cases q
              · split at h
                · cases h
                · obtain ⟨A, hA, rfl⟩ := Option.map_eq_some_iff.mp h
                  simp only [ev] at q
                  split at q
                  · rename_i k' c fs hd'
                    obtain ⟨b', hb', e⟩ := Option.map_eq_some_iff.mp q
                    cases e
                    obtain ⟨CT, c1, c2⟩ := hgl.isi _ _ _ hb'
                    exact ev_isC (gl_of x hg) hm (gl_of x hgT.1) (by rw [o.m]; exact c1) t1 (tr_pl hA X) (S B _ A hA X o x σ F ρ hs _ _ hd').1.z (by rw [o.k]; exact c2)
                  · cases q
            · cases h
          · split at h
            · rename_i hlt
              obtain ⟨hl1, hl2, hl3⟩ := hlt
              unfold isLTb at hl1
              split at hl1
              · rw [Bool.and_eq_true] at hl1
                obtain ⟨ex1, ex2⟩ := hl1
                have ex1 := of_decide_eq_true ex1
                have ex2 := of_decide_eq_true ex2
                subst ex1 ex2
                obtain ⟨A, hA, rfl⟩ := Option.map_eq_some_iff.mp h
                simp only [ev] at q
                split at q
                · rename_i k' d' hd'
                  obtain ⟨hni, rfl, rfl⟩ := tyIs_some q
                  exact ev_isiLT (gl_of x hg) hm (gl_of x hl2) (blt_none hb o (by decide)) (gl_of x hl3) (blt_none hb o (by decide)) (tr_pl hA X) (S B _ A hA X o x σ F ρ hs _ _ hd').1.z hni
                · cases q
              · cases hl1
            · cases h
        · split at h
          · rename_i ef
            subst ef
            split at h
            · rename_i A A' hA hA'
              cases h
              simp only [ev] at q
              split at q
              · rename_i k1 i1 k2 i2 h1 h2
                cases q
                exact ev_mx2 x.calm (gl_of x hg) hm (tr_pl hA X) (tr_pl hA' X) (S B _ A hA X o x σ F ρ hs _ _ h1).1.z (S B _ A' hA' X o x σ F ρ hs _ _ h2).1.z
              · cases q
            · cases h
          · cases h
      · cases h
    · split at h
      · rename_i as ks ws has hks hws
        cases h
        simp only [ev] at q
        split at q
        · rename_i ds es hds hes
          exact hc.fn X o x.calm x.room f args kws ks p pos σ F ds es k d (gl_of x hg) hok (list_pl has) (list_len has hds) hks (snd_list S o x hs has hds) (snd_kws S o x hs hws hes) q
        · cases q
      · cases h
  · cases h
end
end PV

set_option Elab.async false
set_option linter.all false
set_option maxRecDepth 100000
set_option maxHeartbeats 4000000
/-! PV, part O: expressions are sound, the induction. -/
namespace PV
open PySem PySem.Spec PyProof.Rows L2 LamX NdefX
variable [Tabl]
section
variable {g : G5} {lvl : Nat} {C : Fn → List D → List Str → List D → Option (Nat × D)} {G : Glo}
theorem callS0 : CallS g 0 (fun _ _ _ _ => none) := by
  constructor
  · intro X o hc hr f args kws ks p pos σ F ds es k d h1 h2 h3 h4 h5 h6 h7 h
    cases h
  · intro X o hc hr ob m args kws ks apos pos σ F c fs ds es k d h1 h2 h3 h4 h5 h6 h7 h8 h9 h10 h11 h
    cases h
theorem slotsOf_get {N : List Str} : ∀ {xs : List Str} {js : List Nat}, slotsOf N xs = some js → js.map (fun j => N[j]?) = xs.map some
  | [], js, h => by cases h; rfl
  | x :: r, js, h => by
    unfold slotsOf at h
    split at h
    · rename_i i is h1 h2
      cases h
      rw [List.map_cons, List.map_cons, slotsOf_get h2, slotOf_get h1]
    · cases h
theorem lam_bind {pa : Arg} {body : Expr} {scope : Scope} {q : Str} {cl : List (Str × Addr)} {pm cv ctv u : Value} : bindArgs (PySem.W.kla_fn "<lambda>" q ⟨[], [pa], none, [], [], none, []⟩ body scope cl pm cv ctv) ⟨[u], []⟩ = pure [(pa.arg, u)] := by
  simp [bindArgs, seqItems?]
  rfl
theorem lam_dflt {pa : Arg} {env : PySem.Env} : defaultsOf ⟨[], [pa], none, [], [], none, []⟩ env = ([], []) := rfl
theorem lam_loc {N ps fr : List Str} {sc : Scope} (S : NScope N ps fr sc) {y : Str} (h : locB sc y = true) : Loc sc y ∧ (false = true ∨ sc.names.lookup y = some .local) := by
  unfold locB at h
  split at h
  · rename_i e; exact ⟨.inl e, .inr e⟩
  · rename_i e; exact absurd rfl (S.nocell _ (PySem.mem_of_lookup e))
  · cases h
theorem lam_slots {K : PySem.W.Frag} {F : Hp} {σ : L2.St} {ρ : Ro} {js : List Nat} {fr : List Str} {pn y : Str} (hs : SlotR K F σ ρ) (hl : js.length = fr.length) : SlotR K F (startF (pn :: fr) [.str y] (js.map (slotAt σ))) (some (.str y) :: js.map fun j => (ρ[j]?).join) := by
  have e : startF (pn :: fr) [.str y] (js.map (slotAt σ)) = some (.str y) :: js.map (slotAt σ) := by
    unfold startF
    simp [hl]
  rw [e]
  refine ⟨by simp, fun i d h => ?_⟩
  cases i with
  | zero => simp at h; subst h; exact ⟨_, rfl, .str y⟩
  | succ i =>
    simp only [List.getElem?_cons_succ, List.getElem?_map] at h ⊢
    cases hj : js[i]? with
    | none => rw [hj] at h; cases h
    | some j =>
      rw [hj] at h
      simp only [Option.map_some, Option.some.injEq] at h
      have hr : ρ[j]? = some (some d) := by
        cases z : ρ[j]? with
        | none => rw [z] at h; cases h
        | some u => rw [z] at h; exact congrArg some h
      obtain ⟨v, h1, h2⟩ := hs.at_ j d hr
      exact ⟨v, by rw [Option.map_some, slotAt_of h1], h2⟩
theorem snd_all {lvl : Nat} {C : Fn → List D → List Str → List D → Option (Nat × D)} (hc : CallS g lvl C) (hg : GloS g G) (hb : BltS g) : ∀ n, Snd g lvl C G n
  | 0 => fun B e E h => by cases h
  | n + 1 => by
    have S := snd_all hc hg hb n
    intro B e E h X o x σ F ρ hs k d q
    have hu : X.A.units + 64 < cLine := x.room.units
    cases e <;> try (cases (show (none : Option Exp) = some E from h))
    case Name y pos =>
      refine snd_val ?_ fun _ => rfl
      unfold tr at h
      dsimp only at h
      split at h
      · rename_i hok
        obtain ⟨ok1, ok2, ok3⟩ := ok_dbg hok
        split at h
        · rename_i hv
          obtain ⟨i, hi, rfl⟩ := Option.map_eq_some_iff.mp h
          simp only [ev] at q
          split at q
          · rename_i d' hd'
            cases q
            obtain ⟨v, h1, h2⟩ := hs.at_ i _ hd'
            exact ev_var (by rw [x.N_]; exact slotOf_get hi) (by rw [x.sc_]; exact vis_of hv) ok1 ok2 h1 h2
          · cases q
        · split at h
          · rename_i hgl
            cases h
            simp only [ev] at q
            obtain ⟨d', hd', e⟩ := Option.map_eq_some_iff.mp q
            cases e
            obtain ⟨v, u, h1, h2, h3⟩ := hg.v _ _ hd'
            exact ev_glob (gl_of x hgl) (by rw [o.m]; exact h1) h2 (by rw [o.k]; exact h3) ok1
          · cases h
      · cases h
    case Constant c kk pos =>
      refine snd_val ?_ fun _ => rfl
      cases c <;> try (cases (show (none : Option Exp) = some E from h))
      · cases h; cases q; exact ev_non
      · cases h; cases q; exact ev_bl
      · cases h; cases q; exact ev_int
      · cases h; cases q; exact ev_str
    case BinOp a op b pos =>
      refine snd_val ?_ fun _ => rfl
      unfold tr at h
      dsimp only at h
      split at h
      · rename_i bo A A' hbo hA hA'
        cases h
        simp only [ev] at q
        split at q
        · rename_i k1 d1 k2 d2 h1 h2
          rw [bopOf_eq hbo]
          exact ev_bin (S B a A hA X o x σ F ρ hs _ _ h1).1.z (S B b A' hA' X o x σ F ρ hs _ _ h2).1.z q
        · cases q
      · cases h
    case UnaryOp op a pos =>
      cases op <;> try (cases (show (none : Option Exp) = some E from h))
      · obtain ⟨A, hA, rfl⟩ := Option.map_eq_some_iff.mp (show (tr n B a).map Exp.nt = some E from h)
        simp only [ev] at q
        split at q
        · rename_i k' b hb'
          cases q
          obtain ⟨h1, h2⟩ := S B a A hA X o x σ F ρ hs _ _ hb'
          exact ⟨ev_not h1.z, fun b' e => by cases e; exact et_not (h2 b rfl)⟩
        · cases q
      · obtain ⟨A, hA, rfl⟩ := Option.map_eq_some_iff.mp (show (tr n B a).map Exp.neg = some E from h)
        refine snd_val ?_ fun _ => rfl
        simp only [ev] at q
        split at q
        · rename_i k' i hi
          cases q
          exact ev_neg (S B a A hA X o x σ F ρ hs _ _ hi).1.z
        · cases q
    case BoolOp op vs pos =>
      cases op with
      | And =>
        have h' : trBool (tr n B) .and_ vs = some E := h
        cases vs with
        | nil => cases h'
        | cons a r =>
          cases r with
          | nil =>
            have h'' : tr n B a = some E := h'
            obtain ⟨h1, h2⟩ := S B a E h'' X o x σ F ρ hs k d q
            refine ⟨fun F1 H e1 e2 Q qq => w_of (pe_one pe_W) (h1 F1 H e1 e2 Q qq), fun b eb => ?_⟩
            exact (snd_and S o x hs pos h' q b eb).2.tst
          | cons b r =>
            obtain ⟨rfl, t, rfl⟩ := and_bool (by simp) h' q
            obtain ⟨h1, h2⟩ := snd_and S o x hs pos h' q t rfl
            exact ⟨h1.d, fun b' e => by cases e; exact h2.tst⟩
      | Or =>
        have h' : trBool (tr n B) .or_ vs = some E := h
        cases vs with
        | nil => cases h'
        | cons a r =>
          cases r with
          | nil =>
            have h'' : tr n B a = some E := h'
            obtain ⟨h1, h2⟩ := S B a E h'' X o x σ F ρ hs k d q
            refine ⟨fun F1 H e1 e2 Q qq => w_of (pe_one pe_W) (h1 F1 H e1 e2 Q qq), fun b eb => ?_⟩
            exact (snd_or S o x hs pos h' q b eb).2.tst
          | cons b r =>
            obtain ⟨rfl, t, rfl⟩ := or_bool (by simp) h' q
            obtain ⟨h1, h2⟩ := snd_or S o x hs pos h' q t rfl
            exact ⟨h1.d, fun b' e => by cases e; exact h2.tst⟩
    case Compare a ops cs pos =>
      unfold tr at h
      dsimp only at h
      split at h
      · rename_i op b
        split at h
        · rename_i co A A' hco hA hA'
          cases hne : isNeT co A A' with
          | true =>
            rw [if_pos hne] at h
            cases h
            have hco2 : co = .ne := by
              unfold isNeT at hne
              split at hne
              · rfl
              · cases hne
            subst hco2
            simp only [ev] at q
            split at q
            · rename_i k1 d1 k2 d2 h1 h2
              obtain ⟨hc', e⟩ := if_some q
              cases e
              rw [cmpOf_eq hco]
              have z1 := (S B a A hA X o x σ F ρ hs _ _ h1).1.z
              have z2 := (S B b A' hA' X o x σ F ρ hs _ _ h2).1.z
              exact ⟨ev_net hu z1 z2 hc' (tr_marks hA' _), fun b' e => by cases e; exact et_net hu z1 z2 hc' (tr_marks hA' _)⟩
            · cases q
          | false =>
          rw [if_neg (by rw [hne]; exact Bool.false_ne_true)] at h
          cases h
          simp only [ev] at q
          split at q
          · rename_i k1 d1 k2 d2 h1 h2
            obtain ⟨c, hc', e⟩ := Option.map_eq_some_iff.mp q
            cases e
            rw [cmpOf_eq hco]
            have z1 := (S B a A hA X o x σ F ρ hs _ _ h1).1.z
            have z2 := (S B b A' hA' X o x σ F ρ hs _ _ h2).1.z
            exact ⟨ev_cmp hu z1 z2 hc' (tr_marks hA' _), fun b' e => by cases e; exact et_cmp hu z1 z2 hc' (tr_marks hA' _)⟩
          · cases q
        · cases h
      · rename_i op op' b c
        split at h
        · rename_i co co' A A' A'' hco hco' hA hA' hA''
          cases h
          simp only [ev] at q
          split at q
          · rename_i k1 d1 k2 d2 h1 h2
            rw [cmpOf_eq hco, cmpOf_eq hco']
            have z1 := (S B a A hA X o x σ F ρ hs _ _ h1).1.z
            have z2 := (S B b A' hA' X o x σ F ρ hs _ _ h2).1.z
            have lm : lastMarks [copOf co, copOf co'] [b, c] = false := tr_marks hA'' _
            split at q
            · rename_i hc1
              split at q
              · rename_i k3 d3 h3
                obtain ⟨t, ht, e⟩ := Option.map_eq_some_iff.mp q
                cases e
                have z3 := (S B c A'' hA'' X o x σ F ρ hs _ _ h3).1.z
                exact ⟨ev_chain hu z1 z2 hc1 (fun _ => ⟨z3, ht⟩) (fun z => nomatch z) lm, fun b' e => by cases e; exact et_chain hu z1 z2 hc1 (fun _ => ⟨z3, ht⟩) (fun z => nomatch z) lm⟩
              · cases q
            · rename_i hc1
              cases q
              exact ⟨ev_chain (z := .non) hu z1 z2 hc1 (fun z => nomatch z) (fun _ => rfl) lm, fun b' e => by cases e; exact et_chain (z := .non) hu z1 z2 hc1 (fun z => nomatch z) (fun _ => rfl) lm⟩
            · cases q
          · cases q
        · cases h
      · cases h
    case IfExp t a b pos =>
      unfold tr at h
      dsimp only at h
      split at h
      · rename_i T A A' hT hA hA'
        cases h
        simp only [ev] at q
        split at q
        · rename_i k1 h1
          obtain ⟨t1, t2⟩ := S B t T hT X o x σ F ρ hs _ _ h1
          obtain ⟨a1, a2⟩ := S B a A hA X o x σ F ρ hs _ _ q
          exact ⟨ev_ife (t2 true rfl) (fun _ => a1) (fun z => nomatch z), fun b' e => et_ife (t2 true rfl) (fun _ => a2 b' e) (fun z => nomatch z)⟩
        · rename_i k1 h1
          obtain ⟨t1, t2⟩ := S B t T hT X o x σ F ρ hs _ _ h1
          obtain ⟨a1, a2⟩ := S B b A' hA' X o x σ F ρ hs _ _ q
          exact ⟨ev_ife (t2 false rfl) (fun z => nomatch z) (fun _ => a1), fun b' e => et_ife (t2 false rfl) (fun z => nomatch z) (fun _ => a2 b' e)⟩
        · cases q
      · cases h
    case Call f args kws pos =>
      refine snd_val ?_ fun _ => rfl
      cases f <;> try (cases (show (none : Option Exp) = some E from h))
      · rename_i a m apos
        unfold tr at h
        dsimp only at h
        split at h
        · rename_i hm
          subst hm
          split at h
          · rename_i b
            split at h
            · rename_i hm
              obtain ⟨hbs, hl⟩ := hm
              split at h
              · rename_i A A' hA hA'
                cases h
                simp only [ev] at q
                split at q
                · rename_i k1 ds k2 d2 h1 h2
                  split at q
                  · rename_i hf
                    obtain ⟨j, hj, e⟩ := Option.map_eq_some_iff.mp q
                    cases e
                    exact ev_index (S B a A hA X o x σ F ρ hs _ _ h1).1.z (S B b A' hA' X o x σ F ρ hs _ _ h2).1.z hf.1 hf.2 hj (tr_pl hA' X) (base_of hbs _ _ _) hl
                  · cases q
                · cases q
              · cases h
            · cases h
          · cases h
        · split at h
          · rename_i hcond
            obtain ⟨hbs, hl, hne, hfew⟩ := hcond
            split at h
            · rename_i A as ks ws hA has hks hws
              cases h
              simp only [ev] at q
              split at q
              · rename_i k1 c fs ds es h1 hds hes
                split at q
                · rename_i hnone
                  exact hc.me X o x.calm x.room a m args kws ks apos pos σ F c fs ds es k d (base_of hbs _ _ _) hl (fun z => by rw [z] at hne; cases hne) hfew (list_pl has) (list_len has hds) hks (S B a A hA X o x σ F ρ hs _ _ h1).1.z (snd_list S o x hs has hds) (snd_kws S o x hs hws hes) (by simpa using hnone) q
                · cases q
              · cases q
            · cases h
          · cases h
      · rename_i y p
        unfold tr at h
        dsimp only at h
        split at h
        · rename_i kx params body scope lpos kpos
          split at h
          · rename_i a pn js hpn hjs
            split at h
            · rename_i hcond
              obtain ⟨rfl, rfl, hgl, hlam, hnsc, hnd⟩ := hcond
              split at h
              · rename_i A Y hA hY
                obtain ⟨hnc, e⟩ := if_some h
                cases e
                simp only [ev] at q
                split at q
                · rename_i k1 kvs h1
                  split at q
                  · rename_i xs hx
                    split at q
                    · rename_i ksl hks
                      obtain ⟨hlen, e⟩ := if_some q
                      cases e
                      obtain ⟨⟨c, P, TB, hcode, hmT, hu'⟩, hr3⟩ := x.lam hlam
                      obtain ⟨e1, e2⟩ := keysL_spec hks
                      have ez : (ksl.map (·.1)).zip (xs.map D.str) = ksl := by rw [← e1]; exact zip_parts ksl
                      have hkl : (ksl.map (·.1)).length = xs.length := by
                        have := congrArg List.length e1
                        rw [List.length_map, List.length_map] at this
                        rw [List.length_map]; exact this
                      have SC := nscope_by hnsc
                      have hjm : js.map (fun j => X.N[j]?) = (lamFr scope).map some := by rw [x.N_]; exact slotsOf_get hjs
                      have hjl : js.length = (lamFr scope).length := by simpa using congrArg List.length hjm
                      unfold lamPar at hpn
                      split at hpn
                      · rename_i pa
                        cases hpn
                        have S0 := snd_all (lvl := 0) (C := fun _ _ _ _ => none) callS0 hg hb n
                        have main := ev_sortk (p := p) (pos := pos) (lpos := lpos) (kpos := kpos) (lvl := 0) x.calm (gl_of x hgl) (blt_none hb o (by decide)) (tr_pl hA X) hr3 TB hcode hmT hu' lam_dflt SC (fun q cl cv u pm ctv => lam_bind) (by rw [x.sc_]; exact ndef_free hnd) (ndef_fr hnd) hjm (S B a A hA X o x σ F ρ hs _ _ h1).1.z hx hlen hkl
                          (fun i y ky hy hky F' f A' s' H' hsc hq hroom => by
                            obtain ⟨j', hj'⟩ := e2 i ky (.str y) hky (by rw [List.getElem?_map, hy]; rfl)
                            rw [ev_nocall (C' := fun _ _ _ _ => none) _ hnc] at hj'
                            exact (S0 ⟨pa.arg :: lamFr scope, scope, scope, false⟩ body Y hY (ncx L2.CX0 X.prog X.w X.K X.mg X.base (pa.arg :: lamFr scope) F' f A' X.stack s' H' L2.E0) ⟨o.p, o.w, o.k, o.m, o.b⟩ ⟨rfl, SC.nd, hsc, rfl, hroom, fun y hy => lam_loc SC hy, fun z => by cases z⟩ _ F _ (lam_slots hs hjl) j' _ hj').1.z)
                        rw [ez] at main
                        exact main
                      · cases hpn
                    · cases q
                  · cases q
                · cases q
              · cases h
            · cases h
          · cases h
        · exact snd_call S hc hg hb o x hs (show trCall (tr n B) B y args kws = some E from h) q
    case Attribute a f pos =>
      refine snd_val ?_ fun _ => rfl
      unfold tr at h
      dsimp only at h
      split at h
      · rename_i hbs
        obtain ⟨A, hA, rfl⟩ := Option.map_eq_some_iff.mp h
        simp only [ev] at q
        split at q
        · rename_i k1 c fs h1
          split at q
          · rename_i hf
            obtain ⟨d', hl, e⟩ := Option.map_eq_some_iff.mp q
            cases e
            exact ev_fld (base_of hbs _ _ _) (S B a A hA X o x σ F ρ hs _ _ h1).1.z hl (by rw [o.k]; exact hg.fld c f hf)
          · cases q
        · cases q
      · cases h
    case Subscript a b pos =>
      refine snd_val ?_ fun _ => rfl
      unfold tr at h
      dsimp only at h
      split at h
      · rename_i lo hi st p2
        split at h
        · split at h
          · rename_i A L U hA hL hU
            cases h
            simp only [ev] at q
            split at q
            · rename_i k1 d1 l u h1 hl hu'
              obtain ⟨tl, pl, ql⟩ := snd_part S o x hs hL hl
              obtain ⟨th, ph, qh⟩ := snd_part S o x hs hU hu'
              exact ev_slc (S B a A hA X o x σ F ρ hs _ _ h1).1.z q ql pl qh ph
            · cases q
          · cases h
        · rename_i st
          split at h
          · rename_i hrev
            unfold revStep at hrev
            split at hrev
            · have e1 := of_decide_eq_true hrev
              subst e1
              obtain ⟨A, hA, rfl⟩ := Option.map_eq_some_iff.mp h
              simp only [ev] at q
              split at q
              · rename_i k1 ds h1
                cases q
                exact ev_rev (S B a A hA X o x σ F ρ hs _ _ h1).1.z
              · cases q
            · cases hrev
          · cases h
      · split at h
        · rename_i A A' hA hA'
          cases h
          simp only [ev] at q
          split at q
          · rename_i k1 d1 k2 d2 h1 h2
            obtain ⟨d', hd', e⟩ := Option.map_eq_some_iff.mp q
            cases e
            exact ev_idx hu (S B a A hA X o x σ F ρ hs _ _ h1).1.z (S B b A' hA' X o x σ F ρ hs _ _ h2).1.z hd' (tr_ix hA')
          · cases q
        · cases h
    case List es pos =>
      refine snd_val ?_ fun _ => rfl
      obtain ⟨A, hA, rfl⟩ := Option.map_eq_some_iff.mp (show (trList (tr n B) es).map Exp.lst = some E from h)
      simp only [ev] at q
      split at q
      · rename_i ds hds
        obtain ⟨hl, e⟩ := if_some q
        cases e
        exact ev_lst (snd_list S o x hs hA hds) hl
      · cases q
    case Tuple es kk pos =>
      refine snd_val ?_ fun _ => rfl
      obtain ⟨A, hA, rfl⟩ := Option.map_eq_some_iff.mp (show (trList (tr n B) es).map Exp.tup = some E from h)
      simp only [ev] at q
      split at q
      · rename_i ds hds
        obtain ⟨hl, e⟩ := if_some q
        cases e
        exact ev_tup (snd_list S o x hs hA hds) hl
      · cases q
    case Dict ks vs pos =>
      refine snd_val ?_ fun _ => rfl
      unfold tr at h
      dsimp only at h
      split at h
      · cases h; cases q; exact ev_dnew
      · rename_i kx vx
        split at h
        · rename_i A A' hA hA'
          cases h
          simp only [ev] at q
          split at q
          · rename_i k1 ks k2 v h1 h2
            split at q
            · rename_i kk hkk
              cases q
              exact ev_dpair hu (S B kx A hA X o x σ F ρ hs _ _ h1).1.z (S B vx A' hA' X o x σ F ρ hs _ _ h2).1.z hkk
            · cases q
          · rename_i k1 ks k2 v h1 h2
            cases q
            exact ev_dstr (S B kx A hA X o x σ F ρ hs _ _ h1).1.z (S B vx A' hA' X o x σ F ρ hs _ _ h2).1.z
          · cases q
        · cases h
      · cases h
    case ListComp elt gs scope pos =>
      refine snd_val ?_ fun _ => rfl
      unfold tr at h
      dsimp only at h
      split at h
      · rename_i tg iter ifs as
        split at h
        · rename_i hcond
          obtain ⟨rfl, hblk⟩ := hcond
          split at h
          · rename_i t it c y ht hit hcc hy
            split at h
            · rename_i hsub
              cases h
              simp only [ev] at q
              split at q
              · rename_i ds hds
                obtain ⟨ys, hys, e⟩ := Option.map_eq_some_iff.mp q
                cases e
                exact comp_any x hb hg S o hs we_lock hit hds fun F' hs' hi' => comp_lc S o x (we_lc x hblk ht (iter_fold hit _)) hcc hy hsub hi' hs' hys
              · cases q
            · cases h
          · cases h
        · cases h
      · cases h
    case DictComp kx vx gs scope pos =>
      refine snd_val ?_ fun _ => rfl
      unfold tr at h
      dsimp only at h
      split at h
      · rename_i tg iter ifs as
        split at h
        · rename_i hcond
          obtain ⟨rfl, hblk⟩ := hcond
          split at h
          · rename_i t it c y z ht hit hcc hy hz
            split at h
            · rename_i hsub
              cases hli : isList vx with
              | true =>
                rw [if_pos hli] at h
                cases h
                simp only [ev] at q
                split at q
                · rename_i ds hds
                  obtain ⟨ys, hys, e⟩ := Option.map_eq_some_iff.mp q
                  cases e
                  exact comp_any x hb hg S o hs we_lock hit hds fun F' hs' hi' => comp_dco S o x (we_dc x hblk ht (iter_fold hit _)) hcc hy hz hsub hi' hs' hys
                · cases q
              | false =>
                rw [if_neg (by rw [hli]; exact Bool.false_ne_true)] at h
                cases h
                simp only [ev] at q
                split at q
                · rename_i ds hds
                  obtain ⟨ys, hys, e⟩ := Option.map_eq_some_iff.mp q
                  cases e
                  exact comp_any x hb hg S o hs we_lock hit hds fun F' hs' hi' => comp_dc S o x (we_dc x hblk ht (iter_fold hit _)) hcc hy hz hsub hi' hs' hys
                · cases q
            · cases h
          · cases h
        · cases h
      · cases h
end
end PV

set_option Elab.async false
set_option linter.all false
set_option maxRecDepth 100000
set_option maxHeartbeats 2000000
/-! PV, part P: a body's slots, with what it owns. -/
namespace PV
open PySem PySem.Spec PyProof.Rows L2 LamX NdefX
variable [Tabl]
abbrev Env := List (Option (Nat × D))
inductive Rel (K : PySem.W.Frag) (F H : Hp) : L2.St → Env → List Addr → Prop
  | nil : Rel K F H [] [] []
  | no {o : Option V} {σ : L2.St} {ρ : Env} {fp : List Addr} : Rel K F H σ ρ fp → Rel K F H (o :: σ) (none :: ρ) fp
  | sl {k : Nat} {v : V} {d : D} {fq : List Addr} {σ : L2.St} {ρ : Env} {fp : List Addr} : Own K F H k v d fq → Rel K F H σ ρ fp → (∀ a ∈ fq, a ∉ fp) → Rel K F H (some v :: σ) (some (k, d) :: ρ) (fq ++ fp)
section
variable {K : PySem.W.Frag} {F F' H H' : Hp}
theorem Rel.len : ∀ {σ : L2.St} {ρ : Env} {fp : List Addr}, Rel K F H σ ρ fp → σ.length = ρ.length
  | _, _, _, .nil => rfl
  | _, _, _, .no h => by rw [List.length_cons, List.length_cons, h.len]
  | _, _, _, .sl _ h _ => by rw [List.length_cons, List.length_cons, h.len]
theorem Rel.get : ∀ {σ : L2.St} {ρ : Env} {fp : List Addr} {i : Nat} {k : Nat} {d : D}, Rel K F H σ ρ fp → ρ[i]? = some (some (k, d)) → ∃ v fq, σ[i]? = some (some v) ∧ Own K F H k v d fq ∧ ∀ a ∈ fq, a ∈ fp
  | _, _, _, _, _, _, .nil, e => by simp at e
  | _, _, _, 0, _, _, .no _, e => by simp at e
  | _, _, _, i + 1, k, d, .no h, e => by
    obtain ⟨v, fq, h1, h2, h3⟩ := h.get (i := i) (by simpa using e)
    exact ⟨v, fq, by simpa using h1, h2, h3⟩
  | _, _, _, 0, _, _, .sl o h n, e => by
    simp at e
    obtain ⟨rfl, rfl⟩ := e
    exact ⟨_, _, rfl, o, fun a ha => List.mem_append_left _ ha⟩
  | _, _, _, i + 1, k, d, .sl o h n, e => by
    obtain ⟨v, fq, h1, h2, h3⟩ := h.get (i := i) (by simpa using e)
    exact ⟨v, fq, by simpa using h1, h2, fun a ha => List.mem_append_right _ (h3 a ha)⟩
theorem Rel.loose : ∀ {σ : L2.St} {ρ : Env} {fp : List Addr}, Rel K F H σ ρ fp → ∀ a ∈ fp, F a = none ∧ ∃ o, H a = some o ∧ (∀ xs, o ≠ .tup xs) ∧ (∀ u v, o ≠ .frz u v) ∧ isTbl o = false
  | _, _, _, .nil, a, h => by cases h
  | _, _, _, .no r, a, h => r.loose a h
  | _, _, _, .sl o r _, a, h => by
    rcases List.mem_append.mp h with h | h
    · exact o.loose a h
    · exact r.loose a h
theorem Rel.keep (ef : Ex F F') : ∀ {σ : L2.St} {ρ : Env} {fp : List Addr}, Rel K F H σ ρ fp → (∀ a ∈ fp, H' a = H a ∧ F' a = none) → Rel K F' H' σ ρ fp
  | _, _, _, .nil, _ => .nil
  | _, _, _, .no r, q => .no (r.keep ef q)
  | _, _, _, .sl o r n, q => .sl (o.keep ef fun a h => q a (List.mem_append_left _ h)) (r.keep ef fun a h => q a (List.mem_append_right _ h)) n
theorem Rel.stp {σ : L2.St} {ρ : Env} {fp : List Addr} (h : Rel K F H σ ρ fp) (st : Stp F H F' H') : Rel K F' H' σ ρ fp := h.keep st.ff fun a ha => by
  obtain ⟨h1, o, h2, _, _, nt⟩ := h.loose a ha
  exact ⟨by rw [h2]; exact st.hh.get h2 nt, st.lse h1 (by rw [h2]; exact fun z => nomatch z)⟩
theorem Rel.set {k : Nat} {v : V} {d : D} {fq : List Addr} (o : Own K F H k v d fq) : ∀ {σ : L2.St} {ρ : Env} {fp : List Addr} (i : Nat), Rel K F H σ ρ fp → (∀ a ∈ fq, a ∉ fp) → ∃ fp', Rel K F H (σ.set i (some v)) (ρ.set i (some (k, d))) fp' ∧ ∀ a ∈ fp', a ∈ fq ∨ a ∈ fp
  | _, _, _, _, .nil, _ => ⟨[], .nil, fun a h => by cases h⟩
  | _, _, _, 0, .no r, n => ⟨_, .sl o r n, fun a h => List.mem_append.mp h⟩
  | _, _, _, 0, .sl o' r n', n => ⟨_, .sl o r (fun a ha z => n a ha (List.mem_append_right _ z)), fun a h => (List.mem_append.mp h).imp id fun z => List.mem_append_right _ z⟩
  | _, _, _, i + 1, .no r, n => by
    obtain ⟨fp', h1, h2⟩ := Rel.set o i r n
    exact ⟨fp', .no h1, h2⟩
  | _, _, _, i + 1, .sl (fq := fr) o' r n', n => by
    obtain ⟨fp', h1, h2⟩ := Rel.set o i r fun a ha z => n a ha (List.mem_append_right _ z)
    refine ⟨fr ++ fp', .sl o' h1 fun a ha z => ?_, fun a h => ?_⟩
    · rcases h2 a z with w | w
      · exact n a w (List.mem_append_left _ ha)
      · exact n' a ha w
    · rcases List.mem_append.mp h with h | h
      · exact .inr (List.mem_append_left _ h)
      · exact (h2 a h).imp id fun z => List.mem_append_right _ z
/-- a slot's object is written: the others stay -/
theorem Rel.upd_slotN {fn : List Addr} {k k' : Nat} {d d' : D} : ∀ {σ : L2.St} {ρ : Env} {fp : List Addr} {i : Nat}, Rel K F H σ ρ fp → ρ[i]? = some (some (k, d)) → Ex F F' → (∀ a ∈ fn, a ∉ fp) →
    (∀ v fq, σ[i]? = some (some v) → Own K F H k v d fq → (∀ a ∈ fq, a ∈ fp) → ∃ fq', Own K F' H' k' v d' fq' ∧ (∀ a ∈ fq', a ∈ fq ∨ a ∈ fn) ∧ ∀ a ∈ fp, a ∉ fq → H' a = H a ∧ F' a = none) →
    ∃ fp', Rel K F' H' σ (ρ.set i (some (k', d'))) fp' ∧ ∀ a ∈ fp', a ∈ fp ∨ a ∈ fn
  | _, _, _, _, .nil, e, _, _, _ => by simp at e
  | _, _, _, 0, .no _, e, _, _, _ => by simp at e
  | _, _, _, 0, .sl (fq := fr) (fp := fp) o r n, e, ef, hn, q => by
    simp at e
    obtain ⟨rfl, rfl⟩ := e
    obtain ⟨fq', h1, h2, h3⟩ := q _ _ rfl o fun a ha => List.mem_append_left _ ha
    refine ⟨fq' ++ fp, .sl h1 (r.keep ef fun a ha => h3 a (List.mem_append_right _ ha) fun z => n a z ha) fun a ha z => (h2 a ha).elim (fun w => n a w z) (fun w => hn a w (List.mem_append_right _ z)), fun a h => ?_⟩
    rcases List.mem_append.mp h with h | h
    · exact (h2 a h).imp (fun w => List.mem_append_left _ w) id
    · exact .inl (List.mem_append_right _ h)
  | _, _, _, i + 1, .no r, e, ef, hn, q => by
    obtain ⟨fp', h1, h2⟩ := Rel.upd_slotN (i := i) r (by simpa using e) ef hn fun v fq hv => q v fq (by simpa using hv)
    exact ⟨fp', .no h1, h2⟩
  | _, _, _, i + 1, .sl (fq := fr) (fp := fp) o r n, e, ef, hn, q => by
    obtain ⟨v, fq, hv, ho, hin⟩ := r.get (i := i) (by simpa using e)
    have keepO : ∀ a ∈ fr, H' a = H a ∧ F' a = none := fun a ha => by
      obtain ⟨_, _, _, h3⟩ := q v fq (by simpa using hv) ho fun b hb => List.mem_append_right _ (hin b hb)
      exact h3 a (List.mem_append_left _ ha) fun z => n a ha (hin a z)
    obtain ⟨fp', h1, h2⟩ := Rel.upd_slotN (i := i) r (by simpa using e) ef (fun a ha z => hn a ha (List.mem_append_right _ z)) fun v' fq' hv' ho' hin' => by
      obtain ⟨fq'', g1, g2, g3⟩ := q v' fq' (by simpa using hv') ho' fun b hb => List.mem_append_right _ (hin' b hb)
      exact ⟨fq'', g1, g2, fun a ha hn => g3 a (List.mem_append_right _ ha) hn⟩
    refine ⟨fr ++ fp', .sl (o.keep ef keepO) h1 fun a ha z => (h2 a z).elim (n a ha) (fun w => hn a w (List.mem_append_left _ ha)), fun a h => ?_⟩
    rcases List.mem_append.mp h with h | h
    · exact .inl (List.mem_append_left _ h)
    · exact (h2 a h).imp (fun w => List.mem_append_right _ w) id
theorem Rel.upd_slot {k k' : Nat} {d d' : D} {σ : L2.St} {ρ : Env} {fp : List Addr} {i : Nat} (r : Rel K F H σ ρ fp) (e : ρ[i]? = some (some (k, d))) (ef : Ex F F')
    (q : ∀ v fq, σ[i]? = some (some v) → Own K F H k v d fq → (∀ a ∈ fq, a ∈ fp) → ∃ fq', Own K F' H' k' v d' fq' ∧ (∀ a ∈ fq', a ∈ fq) ∧ ∀ a ∈ fp, a ∉ fq → H' a = H a ∧ F' a = none) :
    ∃ fp', Rel K F' H' σ (ρ.set i (some (k', d'))) fp' ∧ ∀ a ∈ fp', a ∈ fp := by
  obtain ⟨fp', h1, h2⟩ := r.upd_slotN (fn := []) e ef (by simp) fun v fq a b c => by
    obtain ⟨fq', g1, g2, g3⟩ := q v fq a b c
    exact ⟨fq', g1, fun a ha => .inl (g2 a ha), g3⟩
  exact ⟨fp', h1, fun a ha => (h2 a ha).resolve_right (by simp)⟩
end
/-! ### reading a body's slots -/
def expose (m : List Nat) : Nat → Env → Ro
  | _, [] => []
  | i, none :: ρ => none :: expose m (i + 1) ρ
  | i, some (k, d) :: ρ => (if k = 0 ∨ i ∈ m then some d else none) :: expose m (i + 1) ρ
def freeze (m : List Nat) : Nat → Env → Env
  | _, [] => []
  | i, none :: ρ => none :: freeze m (i + 1) ρ
  | i, some (k, d) :: ρ => (if i ∈ m then some (0, d) else some (k, d)) :: freeze m (i + 1) ρ
def nosh : Nat → D → Bool
  | 0, d => imm d
  | k + 1, .lst ds => ds.all (nosh k)
  | k + 1, .dic kvs => kvs.all fun p => nosh k p.2
  | k + 1, .dicT kvs => kvs.all fun p => nosh k p.2
  | k + 1, .ins _ fs => fs.all fun p => nosh k p.2
  | _ + 1, d => imm d
def hide (F : Hp) (S : List Addr) : Hp := fun a => if a ∈ S then none else F a
theorem hide_in {F : Hp} {S : List Addr} {a : Addr} (h : a ∈ S) : hide F S a = none := if_pos h
theorem hide_out {F : Hp} {S : List Addr} {a : Addr} (h : a ∉ S) : hide F S a = F a := if_neg h
section
variable {K : PySem.W.Frag} {F H : Hp} {S : List Addr}
theorem hide_rd {a : Addr} {xs : List V} (hS : ∀ a ∈ S, ∃ o, F a = some o ∧ (∀ xs, o ≠ .tup xs) ∧ (∀ u v, o ≠ .frz u v) ∧ isTbl o = false) (h : Rd F a (.tup xs)) : Rd (hide F S) a (.tup xs) := by
  by_cases z : a ∈ S
  · obtain ⟨o, h1, h2, h3, _⟩ := hS a z
    rcases h with h | ⟨u, h⟩
    · rw [h1] at h; cases h; exact absurd rfl (h2 _)
    · rw [h1] at h; cases h; exact absurd rfl (h3 _ _)
  · rcases h with h | ⟨u, h⟩
    · exact .inl (by rw [hide_out z]; exact h)
    · exact .inr ⟨u, by rw [hide_out z]; exact h⟩
mutual
theorem Dat.hide (hS : ∀ a ∈ S, ∃ o, F a = some o ∧ (∀ xs, o ≠ .tup xs) ∧ (∀ u v, o ≠ .frz u v) ∧ isTbl o = false) : ∀ {v : V} {d : D}, Dat K F v d → imm d = true → Dat K (PV.hide F S) v d
  | _, _, .non, _ => .non
  | _, _, .bl b, _ => .bl b
  | _, _, .int i, _ => .int i
  | _, _, .str x, _ => .str x
  | _, _, .lst _ _ _, i => by simp [imm] at i
  | _, _, .tup h1 h2 h3, i => by
    refine .tup ?_ (Dats.hide hS h2 (by simpa [imm] using i)) h3
    rcases hide_rd hS (.of h1) with h | ⟨u, h⟩
    · exact h
    · unfold PV.hide at h
      split at h
      · cases h
      · rw [h1] at h; cases h
  | _, _, .rot (.inl h1) h2 h3, i => .rot (.inl (hide_rd hS h1)) (Dats.hide hS h2 (by simpa [imm] using i)) h3
  | _, _, .rot (.inr h1) h2 h3, i => .rot (.inr h1) (Dats.hide hS h2 (by simpa [imm] using i)) h3
  | _, _, .rol _ _, i => by simp [imm] at i
  | _, _, .dic _ _ _ _, i => by simp [imm] at i
  | _, _, .dicT _ _ _ _, i => by simp [imm] at i
  | _, _, .ins _ _ _ _ _, i => by simp [imm] at i
theorem Dats.hide (hS : ∀ a ∈ S, ∃ o, F a = some o ∧ (∀ xs, o ≠ .tup xs) ∧ (∀ u v, o ≠ .frz u v) ∧ isTbl o = false) : ∀ {vs : List V} {ds : List D}, Dats K F vs ds → imms ds = true → Dats K (PV.hide F S) vs ds
  | _, _, .nil, _ => .nil
  | _, _, .cons h t, i => by
    simp only [imms, Bool.and_eq_true] at i
    exact .cons (Dat.hide hS h i.1) (Dats.hide hS t i.2)
end
theorem nosh_snd {κ : Type} {k : Nat} : ∀ {kvs : List (κ × D)}, (kvs.all fun p => nosh k p.2) = true → (kvs.map (·.2)).all (nosh k) = true := fun {kvs} h => by rw [List.all_map]; exact h
theorem hide_none {a : Addr} (h : F a = none) : hide F S a = none := by unfold PV.hide; split <;> first | rfl | exact h
mutual
theorem Own.hide (hS : ∀ a ∈ S, ∃ o, F a = some o ∧ (∀ xs, o ≠ .tup xs) ∧ (∀ u v, o ≠ .frz u v) ∧ isTbl o = false) : ∀ {k : Nat} {v : V} {d : D} {fp : List Addr}, Own K F H k v d fp → nosh k d = true → Own K (PV.hide F S) H k v d fp
  | 0, _, _, _, .frz h, n => .frz (h.hide hS n)
  | k, _, _, _, .sc i h, _ => .sc i (h.hide hS i)
  | k + 1, _, _, _, .lst h1 h2 h3 h4 h5, n => .lst h1 (hide_none h2) (Owns.hide hS h3 (by simpa [nosh] using n)) h4 h5
  | k + 1, _, _, _, .dic h1 h2 e h3 h4 h5, n => .dic h1 (hide_none h2) e (Owns.hide hS h3 (nosh_snd (by simpa [nosh] using n))) h4 h5
  | k + 1, _, _, _, .dicT h1 h2 e h3 h4 h5, n => .dicT h1 (hide_none h2) e (Owns.hide hS h3 (nosh_snd (by simpa [nosh] using n))) h4 h5
  | k + 1, _, _, _, .ins h1 h2 h3 h4 e1 e2 h5 h6 h7, n => .ins h1 (hide_none h2) h3 (hide_none h4) e1 e2 (Owns.hide hS h5 (nosh_snd (by simpa [nosh] using n))) h6 h7
theorem Owns.hide (hS : ∀ a ∈ S, ∃ o, F a = some o ∧ (∀ xs, o ≠ .tup xs) ∧ (∀ u v, o ≠ .frz u v) ∧ isTbl o = false) : ∀ {k : Nat} {vs : List V} {ds : List D} {fp : List Addr}, Owns K F H k vs ds fp → ds.all (nosh k) = true → Owns K (PV.hide F S) H k vs ds fp
  | _, _, _, _, .nil, _ => .nil
  | k, _, _, _, .cons h1 h2 h3, n => by
    rw [List.all_cons, Bool.and_eq_true] at n
    exact .cons (Own.hide hS h1 n.1) (Owns.hide hS h2 n.2) h3
end
end

section
variable {K : PySem.W.Frag} {F H : Hp}
theorem own_zero {v : V} {d : D} {fp : List Addr} (h : Own K F H 0 v d fp) : Dat K F v d ∧ fp = [] := by
  cases h with
  | frz h => exact ⟨h, rfl⟩
  | sc _ h => exact ⟨h, rfl⟩
theorem Rel.split (m : List Nat) : ∀ (i0 : Nat) {σ : L2.St} {ρ : Env} {fp : List Addr}, Rel K F H σ ρ fp → ∃ fm fo : List Addr, (∀ a ∈ fp, a ∈ fm ∨ a ∈ fo) ∧ (∀ a ∈ fm, a ∈ fp) ∧ (∀ a ∈ fo, a ∈ fp) ∧ (∀ a ∈ fm, a ∉ fo) ∧
    ∀ G, Ex F G → (∀ a ∈ fm, G a = H a) → (∀ a ∈ fo, G a = none) → Rel K G H σ (freeze m i0 ρ) fo ∧ (expose m i0 ρ).length = ρ.length ∧ ∀ (i : Nat) d, (expose m i0 ρ)[i]? = some (some d) → ∃ v, σ[i]? = some (some v) ∧ Dat K G v d
  | _, _, _, _, .nil => ⟨[], [], (fun _ h => nomatch h), (fun _ h => nomatch h), (fun _ h => nomatch h), (fun _ h => nomatch h), fun G _ _ _ => ⟨.nil, rfl, fun i d h => by simp [expose] at h⟩⟩
  | i0, _, _, _, .no r => by
    obtain ⟨fm, fo, h1, h2, h3, h4, h5⟩ := r.split m (i0 + 1)
    refine ⟨fm, fo, h1, h2, h3, h4, fun G e a b => ?_⟩
    obtain ⟨g1, g2, g3⟩ := h5 G e a b
    refine ⟨.no g1, by simp [expose, g2], fun i d h => ?_⟩
    cases i with
    | zero => simp [expose] at h
    | succ i => exact g3 i d (by simpa [expose] using h)
  | i0, _, _, _, .sl (k := k) (v := v) (d := d) (fq := fq) o r n => by
    obtain ⟨fm, fo, h1, h2, h3, h4, h5⟩ := r.split m (i0 + 1)
    by_cases hm : i0 ∈ m
    · refine ⟨fq ++ fm, fo, fun a ha => ?_, fun a ha => ?_, fun a ha => List.mem_append_right _ (h3 a ha), fun a ha => ?_, fun G e a b => ?_⟩
      · rcases List.mem_append.mp ha with h | h
        · exact .inl (List.mem_append_left _ h)
        · exact (h1 a h).imp (fun z => List.mem_append_right _ z) id
      · rcases List.mem_append.mp ha with h | h
        · exact List.mem_append_left _ h
        · exact List.mem_append_right _ (h2 a h)
      · rcases List.mem_append.mp ha with h | h
        · exact fun z => n a h (h3 a z)
        · exact h4 a h
      · obtain ⟨g1, g2, g3⟩ := h5 G e (fun x hx => a x (List.mem_append_right _ hx)) b
        have dd : Dat K G v d := o.dat e fun x hx => a x (List.mem_append_left _ hx)
        refine ⟨?_, by simp [expose, g2], fun i d' h => ?_⟩
        · have z : Rel K G H _ (some (0, d) :: freeze m (i0 + 1) _) ([] ++ fo) := Rel.sl (.frz dd) g1 (fun _ hx => nomatch hx)
          simpa [freeze, hm] using z
        · cases i with
          | zero =>
            simp [expose, hm] at h
            subst h
            exact ⟨v, rfl, dd⟩
          | succ i => exact g3 i d' (by simpa [expose] using h)
    · refine ⟨fm, fq ++ fo, fun a ha => ?_, fun a ha => List.mem_append_right _ (h2 a ha), fun a ha => ?_, fun a ha z => ?_, fun G e a b => ?_⟩
      · rcases List.mem_append.mp ha with h | h
        · exact .inr (List.mem_append_left _ h)
        · exact (h1 a h).imp id fun z => List.mem_append_right _ z
      · rcases List.mem_append.mp ha with h | h
        · exact List.mem_append_left _ h
        · exact List.mem_append_right _ (h3 a h)
      · rcases List.mem_append.mp z with h | h
        · exact n a h (h2 a ha)
        · exact h4 a ha h
      · obtain ⟨g1, g2, g3⟩ := h5 G e a fun x hx => b x (List.mem_append_right _ hx)
        refine ⟨?_, by simp [expose, g2], fun i d' h => ?_⟩
        · have z : Rel K G H _ (some (k, d) :: freeze m (i0 + 1) _) (fq ++ fo) := Rel.sl (o.keep e fun x hx => ⟨rfl, b x (List.mem_append_left _ hx)⟩) g1 (fun x hx z => n x hx (h3 x z))
          simpa [freeze, hm] using z
        · cases i with
          | zero =>
            simp only [expose, List.getElem?_cons_zero, Option.some.injEq] at h
            split at h
            · rename_i hk
              cases h
              have hk : k = 0 := hk.resolve_right hm
              subst hk
              exact ⟨v, rfl, (own_zero o).1.mono e⟩
            · cases h
          | succ i => exact g3 i d' (by simpa [expose] using h)
end
/-! ### evaluation within a body -/
def fv : Exp → List Nat
  | .var i => [i]
  | .bin _ a b => fv a ++ fv b
  | .neg a => fv a
  | .nt a => fv a
  | .and_ a b => fv a ++ fv b
  | .or_ a b => fv a ++ fv b
  | .cmp _ a b => fv a ++ fv b
  | .chain _ _ a b c => fv a ++ fv b ++ fv c
  | .ife a b c => fv a ++ fv b ++ fv c
  | .call _ a _ b => fv a ++ fv b
  | .blt _ a => fv a
  | .index a b => fv a ++ fv b
  | .idx a b => fv a ++ fv b
  | .slc a b c => fv a ++ fv b ++ fv c
  | .lst a => fv a
  | .tup a => fv a
  | .dpair a b => fv a ++ fv b
  | .lc _ _ a b c => fv a ++ fv b ++ fv c
  | .dc _ _ a b c e => fv a ++ fv b ++ fv c ++ fv e
  | .rng a => fv a
  | .enm a => fv a
  | .zp a b => fv a ++ fv b
  | .fld a _ => fv a
  | .meth a _ b _ c => fv a ++ fv b ++ fv c
  | .isC _ a => fv a
  | .rev a => fv a
  | .mx2 a b => fv a ++ fv b
  | .nett a b => fv a ++ fv b
  | .sortk js a _ => js ++ fv a
  | .dco _ _ a b c e => fv a ++ fv b ++ fv c ++ fv e
  | .items a => fv a
  | .vals a => fv a
  | .itr a => fv a
  | .itn a => fv a
  | .cons a b => fv a ++ fv b
  | _ => []
/-- a body's state: F0, H0 at its entry -/
structure SI (K : PySem.W.Frag) (F0 H0 F H : Hp) (σ : L2.St) (ρ : Env) (fp : List Addr) : Prop where
  st : Stp F0 H0 F H
  rel : Rel K F H σ ρ fp
  fr : ∀ a ∈ fp, H0 a = none
section
variable {K : PySem.W.Frag} {F0 H0 F H : Hp} {σ : L2.St} {ρ : Env} {fp : List Addr} {W : TE} {k : Nat} {d : D} {m : List Nat}
/-- what a body's evaluation hands on -/
def Got (K : PySem.W.Frag) (F0 H0 : Hp) (σ : L2.St) (ρ : Env) (k : Nat) (d : D) (Q : VK) : Prop :=
  ∀ v F' H' fp' fq, SI K F0 H0 F' H' σ ρ fp' → Own K F' H' k v d fq → (∀ a ∈ fq, a ∉ fp') → (∀ a ∈ fq, H0 a = none) → Q v H'
theorem si_split (si : SI K F0 H0 F H σ ρ fp) (m : List Nat) : ∃ G fo, SI K F0 H0 G H σ (freeze m 0 ρ) fo ∧ Ex F G ∧ SlotR K G σ (expose m 0 ρ) ∧
    (∀ F2 H2, Stp G H F2 H2 → ∃ F3 S, SI K F0 H0 F3 H2 σ ρ fp ∧ F3 = hide F2 S ∧ (∀ a ∈ S, a ∈ fp) ∧ ∀ a ∈ S, ∃ o, F2 a = some o ∧ (∀ xs, o ≠ .tup xs) ∧ (∀ u v, o ≠ .frz u v) ∧ isTbl o = false) := by
  obtain ⟨fm, fo, h1, h2, h3, h4, h5⟩ := si.rel.split m 0
  have hl : ∀ a ∈ fm, F a = none := fun a ha => (si.rel.loose a (h2 a ha)).1
  obtain ⟨g1, g2, g3⟩ := h5 (frzAt F H fm) (frzAt_ex hl) (fun a ha => frzAt_in ha) (fun a ha => by rw [frzAt_out fun z => h4 a z ha]; exact (si.rel.loose a (h3 a ha)).1)
  refine ⟨frzAt F H fm, fo, ⟨⟨si.st.ff.trans (frzAt_ex hl), si.st.hh, frzAt_sub si.st.fh, fun a q => ?_⟩, g1, fun a ha => si.fr a (h3 a ha)⟩, frzAt_ex hl, ⟨by rw [g2]; exact si.rel.len, g3⟩, fun F2 H2 s2 => ?_⟩
  · by_cases z : a ∈ fm
    · exact .inr (si.fr a (h2 a z))
    · rw [frzAt_out z] at q; exact si.st.nw a q
  · have heq : ∀ a ∈ fp, H2 a = H a := fun a ha => by
      obtain ⟨_, o, ho, _, _, nt⟩ := si.rel.loose a ha
      rw [ho]; exact s2.hh.get ho nt
    have exF : Ex F (hide F2 fm) := ⟨fun a o e n => by
      have z : a ∉ fm := fun z => by rw [hl a z] at e; cases e
      rw [hide_out z]
      exact s2.ff.get (by rw [frzAt_out z]; exact e) n, fun a ps e => by
      have z : a ∉ fm := fun z => by rw [hl a z] at e; cases e
      rw [hide_out z]
      exact s2.ff.tb a ps (by rw [frzAt_out z]; exact e)⟩
    refine ⟨hide F2 fm, fm, ⟨⟨si.st.ff.trans exF, si.st.hh.trans s2.hh, s2.fh.into ⟨fun a o e n => ?_, fun a ps e => ?_⟩, fun a q => ?_⟩, si.rel.keep exF fun a ha => ⟨heq a ha, ?_⟩, si.fr⟩, rfl, h2, fun a ha => ?_⟩
    · unfold hide at e
      split at e
      · cases e
      · exact s2.fh.get e n
    · unfold hide at e
      split at e
      · cases e
      · exact s2.fh.tb a ps e
    · unfold hide at q
      split at q
      · exact absurd rfl q
      · rename_i z
        rcases s2.nw a q with w | w
        · rw [frzAt_out z] at w; exact si.st.nw a w
        · exact .inr (si.st.hh.free w)
    · by_cases z : a ∈ fm
      · exact hide_in z
      · rw [hide_out z]
        obtain ⟨l1, o, l2, _⟩ := si.rel.loose a ha
        exact s2.lse (by rw [frzAt_out z]; exact l1) (by rw [l2]; exact fun z => nomatch z)
    · obtain ⟨_, o, l2, l3⟩ := si.rel.loose a (h2 a ha)
      exact ⟨o, s2.ff.get (by rw [frzAt_in ha]; exact l2) l3.2.2, l3⟩
theorem evS_ok (si : SI K F0 H0 F H σ ρ fp) (hE : ∀ G, SlotR K G σ (expose m 0 ρ) → EvDW K W σ G k d) {Q : VK} (q : Got K F0 H0 σ (if nosh k d = true then ρ else freeze m 0 ρ) k d Q) : W σ H Q := by
  obtain ⟨G, fo, s1, eg, sr, s2⟩ := si_split si m
  refine hE G sr G H (.refl _) s1.st.fh Q fun v F2 H2 fq st o fr => ?_
  have nin : ∀ {fp' : List Addr} {ρ' : Env} {G' : Hp}, Rel K G' H σ ρ' fp' → ∀ a ∈ fq, a ∉ fp' := fun r a ha z => by
    obtain ⟨_, o, ho, _⟩ := r.loose a z
    rw [fr a ha] at ho; cases ho
  cases hn : nosh k d with
  | true =>
    rw [if_pos hn] at q
    obtain ⟨F3, S, s3, rfl, hS, hK⟩ := s2 F2 H2 st
    exact q v _ H2 fp fq s3 (o.hide hK hn) (nin si.rel) fun a ha => si.st.hh.free (fr a ha)
  | false =>
    rw [if_neg (by rw [hn]; exact Bool.false_ne_true)] at q
    exact q v F2 H2 fo fq ⟨s1.st.trans st, s1.rel.stp st, s1.fr⟩ o (nin s1.rel) fun a ha => si.st.hh.free (fr a ha)
end
end PV

set_option Elab.async false
set_option linter.all false
set_option maxRecDepth 100000
set_option maxHeartbeats 2000000
/-! PV, part Q: statements, their meaning; bodies' states. -/
namespace PV
open PySem PySem.Spec PyProof.Rows L2 LamX NdefX
variable [Tabl]

inductive Sta where
  | set (i : Nat) (e : Exp)
  | unp (is : List Nat) (e : Exp)
  | par (i j : Nat) (a b : Exp)
  | app (i : Nat) (e : Exp) | ext (i : Nat) (e : Exp)
  | seti (i : Nat) (k e : Exp)
  | popd (i : Nat) (k : Exp) | popx (j i : Nat) (k : Exp)
  | star (i j : Nat) (e : Exp)
  | exp (e : Exp)
  | seto (i : Nat) (k e : Exp)
  | upd2 (i : Nat) (k : Exp) (j : Int) (e : Exp)
  | clr (i : Nat)
  | setf (i : Nat) (f k : Str) (v : Int)
  | ite (c : Exp) (a b : Sta)
  | for_ (tg : Tg) (it : Exp) (b : Sta)
  | whl (c : Exp) (b : Sta)
  | ret (e : Exp) | retv (i : Nat) | retn | pass | brk | cnt | bad
  | nil | cons (a b : Sta)
  deriving DecidableEq
inductive Out where
  | nx (ρ : Env) | rt (k : Nat) (d : D) | br (ρ : Env) | ct (ρ : Env)

def asgEs : List Nat → List D → Env → Env
  | i :: is, d :: ds, ρ => asgEs is ds (ρ.set i (some (0, d)))
  | _, _, ρ => ρ
def asgE : Tg → D → Env → Option Env
  | .one i, d, ρ => some (ρ.set i (some (0, d)))
  | .many is, .tup ds, ρ => if ds.length = is.length then some (asgEs is ds ρ) else none
  | .many _, _, _ => none
/-- x[k] = v of an owned container -/
def putAt : D → D → D → Option D
  | .dic kvs, k, v => match keyOf k with
    | some k => if kvs.length < cap then some (.dic (putD kvs k v)) else none
    | none => none
  | .dicT kvs, .tup ks, v => match keysOf ks with
    | some k => if kvs.length < cap then some (.dicT (putD kvs k v)) else none
    | none => none
  | .lst xs, .int i, v => match ixN xs.length i with
    | some j => some (.lst (xs.set j v))
    | none => none
  | _, _, _ => none
def popAt : D → D → Option (D × D)
  | .dic kvs, k => match keyOf k with
    | some k => match valD kvs k with
      | some v => some (v, .dic (dropD kvs k))
      | none => none
    | none => none
  | _, _ => none
/-- no key twice -/
def nodK : List Key → Bool
  | [] => true
  | k :: r => !memK k r && nodK r
/-- x[k][j] = v of an owned dict of owned lists -/
def put2 : D → D → Int → D → Option D
  | .dic kvs, k, j, v => match keyOf k with
    | some k => if nodK (kvs.map (·.1)) = true then match valD kvs k with
        | some (.lst xs) => match ixN xs.length j with
          | some i => some (.dic (putD kvs k (.lst (xs.set i v))))
          | none => none
        | _ => none
      else none
    | none => none
  | _, _, _, _ => none
/-- x[k] = a new list, of an owned dict of owned lists -/
def putO : D → D → D → Option D
  | .dic kvs, k, .lst ys => match keyOf k with
    | some k => if nodK (kvs.map (·.1)) = true ∧ kvs.length < cap then some (.dic (putD kvs k (.lst ys))) else none
    | none => none
  | _, _, _ => none
/-- x.f['k'] = v of an owned instance -/
def putF2 (G : Glo) (d : D) (f k : Str) (v : Int) : Option D := match d with
  | .ins c fs => if G.fld c f = true ∧ decide ((fs.map (·.1)).Nodup) = true then match valD fs f with
      | some (.dic kvs) => if kvs.length < cap then some (.ins c (fs.map fun p => if p.1 = f then (p.1, .dic (putD kvs (.inr k) (.int v))) else p)) else none
      | _ => none
    else none
  | _ => none
def forL (tg : Tg) (f : Env → Option Out) : List D → Env → Option Out
  | [], ρ => some (.nx ρ)
  | d :: ds, ρ => match asgE tg d ρ with
    | none => none
    | some ρ1 => match f ρ1 with
      | some (.nx ρ2) => forL tg f ds ρ2
      | some (.ct ρ2) => forL tg f ds ρ2
      | some (.br ρ2) => some (.nx ρ2)
      | some (.rt k d) => some (.rt k d)
      | none => none
def whlL (c : Env → Option Bool) (f : Env → Option Out) : Nat → Env → Option Out
  | 0, _ => none
  | n + 1, ρ => match c ρ with
    | some true => match f ρ with
      | some (.nx ρ2) => whlL c f n ρ2
      | some (.ct ρ2) => whlL c f n ρ2
      | some (.br ρ2) => some (.nx ρ2)
      | some (.rt k d) => some (.rt k d)
      | none => none
    | some false => some (.nx ρ)
    | none => none
section
variable (C : Fn → List D → List Str → List D → Option (Nat × D)) (G : Glo) (w : Nat)
def evS (e : Exp) (ρ : Env) : Option (Nat × D × Env) := match ev C G e (expose (fv e) 0 ρ) with
  | some (k, d) => some (k, d, if nosh k d = true then ρ else freeze (fv e) 0 ρ)
  | none => none
def evB (e : Exp) (ρ : Env) : Option Bool := match ev C G e (expose (fv e) 0 ρ) with
  | some (_, .bl b) => some b
  | _ => none
def evW (e : Exp) (ρ : Env) : Option (List D × Env) := if isDicE C G e (expose (fv e) 0 ρ) = true then none else match evI C G e (expose (fv e) 0 ρ) with
  | some ds => some (ds, freeze (fv e) 0 ρ)
  | none => none
def exec : Sta → Env → Option Out
  | .set i e, ρ => match evS C G e ρ with
    | some (k, d, ρ') => some (.nx (ρ'.set i (some (k, d))))
    | none => none
  | .unp is e, ρ => match evS C G e ρ with
    | some (_, .tup ds, ρ') => if ds.length = is.length then some (.nx (asgEs is ds ρ')) else none
    | some (_, .lst ds, ρ') => if ds.length = is.length then some (.nx (asgEs is ds ρ')) else none
    | _ => none
  | .par i j a b, ρ => match evS C G a ρ with
    | some (_, d, ρ1) => match evS C G b ρ1 with
      | some (_, e, ρ2) => some (.nx ((ρ2.set i (some (0, d))).set j (some (0, e))))
      | none => none
    | none => none
  | .app i e, ρ => match ρ[i]? with
    | some (some (1, .lst _)) => match evS C G e ρ with
      | some (_, d, ρ') => match ρ'[i]? with
        | some (some (1, .lst xs)) => if xs.length < cap then some (.nx (ρ'.set i (some (1, .lst (xs ++ [d]))))) else none
        | _ => none
      | none => none
    | _ => none
  | .ext i e, ρ => match ρ[i]? with
    | some (some (1, .lst _)) => match evS C G e ρ with
      | some (_, .lst ys, ρ') => match ρ'[i]? with
        | some (some (1, .lst xs)) => if xs.length + ys.length ≤ cap then some (.nx (ρ'.set i (some (1, .lst (xs ++ ys))))) else none
        | _ => none
      | _ => none
    | _ => none
  | .seti i k e, ρ => match evS C G e ρ with
    | some (_, v, ρ1) => match evS C G k ρ1 with
      | some (_, y, ρ2) => match ρ2[i]? with
        | some (some (1, d)) => match putAt d y v with
          | some d' => some (.nx (ρ2.set i (some (1, d'))))
          | none => none
        | _ => none
      | none => none
    | none => none
  | .popd i k, ρ => match ρ[i]? with
    | some (some (1, .dic _)) => match evS C G k ρ with
      | some (_, y, ρ1) => match ρ1[i]? with
        | some (some (1, d)) => match popAt d y with
          | some (_, d') => some (.nx (ρ1.set i (some (1, d'))))
          | none => none
        | _ => none
      | none => none
    | _ => none
  | .popx j i k, ρ => match ρ[i]? with
    | some (some (1, .dic _)) => match evS C G k ρ with
      | some (_, y, ρ1) => match ρ1[i]? with
        | some (some (1, d)) => match popAt d y with
          | some (v, d') => some (.nx ((ρ1.set i (some (1, d'))).set j (some (0, v))))
          | none => none
        | _ => none
      | none => none
    | _ => none
  | .star i j e, ρ => match evS C G e ρ with
    | some (_, .tup (d :: ds), ρ') => some (.nx ((ρ'.set i (some (0, d))).set j (some (1, .lst ds))))
    | _ => none
  | .exp e, ρ => match evS C G e ρ with
    | some (_, _, ρ') => some (.nx ρ')
    | none => none
  | .seto i k e, ρ => match evS C G e ρ with
    | some (1, v, ρ1) => match evS C G k ρ1 with
      | some (_, y, ρ2) => match ρ2[i]? with
        | some (some (2, d)) => match putO d y v with
          | some d' => some (.nx (ρ2.set i (some (2, d'))))
          | none => none
        | _ => none
      | none => none
    | _ => none
  | .upd2 i k j e, ρ => match evS C G e ρ with
    | some (_, v, ρ1) => match evS C G k ρ1 with
      | some (_, y, ρ2) => match ρ2[i]? with
        | some (some (2, d)) => match put2 d y j v with
          | some d' => some (.nx (ρ2.set i (some (2, d'))))
          | none => none
        | _ => none
      | none => none
    | none => none
  | .clr i, ρ => match ρ[i]? with
    | some (some (1, .dic _)) => some (.nx (ρ.set i (some (1, .dic []))))
    | _ => none
  | .setf i f k v, ρ => match ρ[i]? with
    | some (some (2, d)) => match putF2 G d f k v with
      | some d' => some (.nx (ρ.set i (some (2, d'))))
      | none => none
    | _ => none
  | .ite c a b, ρ => match evB C G c ρ with
    | some true => exec a ρ
    | some false => exec b ρ
    | none => none
  | .for_ tg it b, ρ => match evW C G it ρ with
    | some (ds, ρ') => forL tg (fun r => exec b r) ds ρ'
    | none => none
  | .whl c b, ρ => whlL (fun r => evB C G c r) (fun r => exec b r) w ρ
  | .ret e, ρ => match evS C G e ρ with
    | some (k, d, _) => some (.rt k d)
    | none => none
  | .retv i, ρ => match ρ[i]? with
    | some (some (k, d)) => some (.rt k d)
    | _ => none
  | .retn, _ => some (.rt 0 .non)
  | .pass, ρ => some (.nx ρ)
  | .brk, ρ => some (.br ρ)
  | .cnt, ρ => some (.ct ρ)
  | .bad, _ => none
  | .nil, ρ => some (.nx ρ)
  | .cons a b, ρ => match exec a ρ with
    | some (.nx ρ') => exec b ρ'
    | some o => some o
    | none => none
end

/-! ### states -/
section
variable {K : PySem.W.Frag} {F0 H0 F H : Hp} {σ : L2.St} {ρ : Env} {fp : List Addr}
def mix (F H : Hp) : Hp := fun a => match F a with
  | some o => some o
  | none => H a
theorem mix_l {a : Addr} {o : HO} (h : F a = some o) : mix F H a = some o := by unfold mix; rw [h]
theorem mix_r {a : Addr} (h : F a = none) : mix F H a = H a := by unfold mix; rw [h]
/-- the frozen heap as it stands becomes the entry's -/
theorem SI.rebase (si : SI K F0 H0 F H σ ρ fp) : SI K F (mix F H0) F H σ ρ fp :=
  ⟨⟨.refl _, ⟨fun a o e n => by
    cases q : F a with
    | some u => rw [mix_l q] at e; cases e; exact si.st.fh.get q n
    | none => rw [mix_r q] at e; exact si.st.hh.get e n, fun a ps e => by
    cases q : F a with
    | some u => rw [mix_l q] at e; cases e; exact si.st.fh.tb a ps q
    | none => rw [mix_r q] at e; exact si.st.hh.tb a ps e⟩, si.st.fh, fun a h => .inl h⟩, si.rel, fun a ha => by rw [mix_r (si.rel.loose a ha).1]; exact si.fr a ha⟩
theorem Stp.back {F' H' : Hp} (st : Stp F0 H0 F H) (s2 : Stp F (mix F H0) F' H') : Stp F0 H0 F' H' :=
  ⟨st.ff.trans s2.ff, ⟨fun a o e n => by
    have hH : H a = some o := st.hh.get e n
    cases q : F a with
    | some u =>
      cases hu : isTbl u with
      | true =>
        obtain ⟨ps, rfl⟩ := isTbl_inv hu
        obtain ⟨ps', z⟩ := st.fh.tb a ps q
        rw [hH] at z; cases z; cases n
      | false =>
        have : H a = some u := st.fh.get q hu
        rw [hH] at this; cases this
        exact s2.hh.get (mix_l q) n
    | none => exact s2.hh.get (by rw [mix_r q]; exact e) n, fun a ps e => by
    obtain ⟨ps1, hH⟩ := st.hh.tb a ps e
    cases q : F a with
    | some u =>
      cases hu : isTbl u with
      | true =>
        obtain ⟨ps2, rfl⟩ := isTbl_inv hu
        exact s2.hh.tb a ps2 (mix_l q)
      | false =>
        have : H a = some u := st.fh.get q hu
        rw [hH] at this; cases this; cases hu
    | none => exact s2.hh.tb a ps (by rw [mix_r q]; exact e)⟩, s2.fh, fun a h => by
    rcases s2.nw a h with z | z
    · exact st.nw a z
    · cases q : F a with
      | some u => rw [mix_l q] at z; cases z
      | none => rw [mix_r q] at z; exact .inr z⟩
theorem fr_back {a : Addr} (h : mix F H0 a = none) : H0 a = none := by
  cases q : F a with
  | some u => rw [mix_l q] at h; cases h
  | none => rw [mix_r q] at h; exact h
theorem SI.back {F' H' : Hp} {σ' : L2.St} {ρ' : Env} {fp' : List Addr} (st : Stp F0 H0 F H) (si : SI K F (mix F H0) F' H' σ' ρ' fp') : SI K F0 H0 F' H' σ' ρ' fp' := ⟨st.back si.st, si.rel, fun a ha => fr_back (si.fr a ha)⟩
/-- a value at hand is frozen -/
theorem SI.fix {k : Nat} {v : V} {d : D} {fq : List Addr} (si : SI K F0 H0 F H σ ρ fp) (o : Own K F H k v d fq) (nin : ∀ a ∈ fq, a ∉ fp) (fr : ∀ a ∈ fq, H0 a = none) : ∃ F', Ex F F' ∧ SI K F0 H0 F' H σ ρ fp ∧ Dat K F' v d := by
  have hl : ∀ a ∈ fq, F a = none := fun a ha => (o.loose a ha).1
  refine ⟨frzAt F H fq, frzAt_ex hl, ⟨⟨si.st.ff.trans (frzAt_ex hl), si.st.hh, frzAt_sub si.st.fh, fun a q => ?_⟩, si.rel.keep (frzAt_ex hl) fun a ha => ⟨rfl, ?_⟩, si.fr⟩, o.dat (frzAt_ex hl) fun a ha => frzAt_in ha⟩
  · by_cases z : a ∈ fq
    · exact .inr (fr a z)
    · rw [frzAt_out z] at q; exact si.st.nw a q
  · rw [frzAt_out fun z => nin a z ha]
    exact (si.rel.loose a ha).1
theorem SI.put {k : Nat} {v : V} {d : D} {fq : List Addr} (si : SI K F0 H0 F H σ ρ fp) (i : Nat) (o : Own K F H k v d fq) (nin : ∀ a ∈ fq, a ∉ fp) (fr : ∀ a ∈ fq, H0 a = none) : ∃ fp', SI K F0 H0 F H (σ.set i (some v)) (ρ.set i (some (k, d))) fp' := by
  obtain ⟨fp', h1, h2⟩ := si.rel.set o i nin
  exact ⟨fp', si.st, h1, fun a ha => (h2 a ha).elim (fr a) (si.fr a)⟩
theorem SI.put0 {v : V} {d : D} (si : SI K F0 H0 F H σ ρ fp) (i : Nat) (h : Dat K F v d) : ∃ fp', SI K F0 H0 F H (σ.set i (some v)) (ρ.set i (some (0, d))) fp' := si.put i (.frz h) (by simp) (by simp)
theorem SI.puts : ∀ {is : List Nat} {vs : List V} {ds : List D} {σ : L2.St} {ρ : Env} {fp : List Addr} {Q : L2.St → Hp → Prop}, SI K F0 H0 F H σ ρ fp → Dats K F vs ds → ds.length = is.length → (∀ σ' fp', SI K F0 H0 F H σ' (asgEs is ds ρ) fp' → Q σ' H) → gMany K is vs σ H Q
  | [], vs, ds, σ, ρ, fp, Q, si, hd, hl, q => by
    have : ds = [] := List.eq_nil_of_length_eq_zero hl
    subst this
    cases hd
    exact ⟨rfl, q σ fp si⟩
  | i :: is, vs, ds, σ, ρ, fp, Q, si, hd, hl, q => by
    cases hd with
    | nil => cases hl
    | cons h1 h2 =>
      obtain ⟨fp', s'⟩ := si.put0 i h1
      exact ⟨_, _, rfl, SI.puts s' h2 (by simpa using hl) q⟩
theorem asgE_ok {tg : Tg} {v : V} {d : D} {ρ' : Env} {Q : L2.St → Hp → Prop} (si : SI K F0 H0 F H σ ρ fp) (hd : Dat K F v d) (h : asgE tg d ρ = some ρ') (q : ∀ σ' fp', SI K F0 H0 F H σ' ρ' fp' → Q σ' H) : gOf K tg v σ H Q := by
  cases tg with
  | one i =>
    cases h
    obtain ⟨fp', s'⟩ := si.put0 i hd
    exact q _ _ s'
  | many is =>
    cases hd <;> try (cases (show (none : Option Env) = some ρ' from h))
    rename_i a vs ds h1 h2 h3
    obtain ⟨hl, rfl⟩ := if_some (show (if ds.length = is.length then some (asgEs is ds ρ) else none) = some ρ' from h)
    exact ⟨a, vs, rfl, .of (si.st.fh.get h1), by rw [h2.length]; exact hl, si.puts h2 hl q⟩
theorem owns_nil : ∀ {vs : List V} {ds : List D} {fp : List Addr}, Owns K F H 0 vs ds fp → fp = [] ∧ Dats K F vs ds
  | _, _, _, .nil => ⟨rfl, .nil⟩
  | _, _, _, .cons h t _ => by
    obtain ⟨d, rfl⟩ := own_zero h
    obtain ⟨rfl, ds⟩ := owns_nil t
    exact ⟨rfl, .cons d ds⟩
mutual
theorem own_teO : ∀ {k : Nat} {v : V} {d : D} {fq : List Addr}, Own K F H k v d fq → ∀ {a : Addr} {o : HO}, a ∈ fq → H a = some o → isTE o = false
  | _, _, _, _, .frz _, a, o, h, _ => by cases h
  | _, _, _, _, .sc _ _, a, o, h, _ => by cases h
  | _, _, _, _, .lst h1 h2 h3 _ _, a, o, h, e => by
    rcases List.mem_cons.mp h with rfl | h
    · rw [h1] at e; cases e; rfl
    · exact own_teOs h3 h e
  | _, _, _, _, .dic h1 h2 _ h3 _ _, a, o, h, e => by
    rcases List.mem_cons.mp h with rfl | h
    · rw [h1] at e; cases e; rfl
    · exact own_teOs h3 h e
  | _, _, _, _, .dicT h1 h2 _ h3 _ _, a, o, h, e => by
    rcases List.mem_cons.mp h with rfl | h
    · rw [h1] at e; cases e; rfl
    · exact own_teOs h3 h e
  | _, _, _, _, .ins h1 h2 h3 h4 _ _ h5 _ _, a, o, h, e => by
    rcases List.mem_cons.mp h with rfl | h
    · rw [h1] at e; cases e; rfl
    · rcases List.mem_cons.mp h with rfl | h
      · rw [h3] at e; cases e; rfl
      · exact own_teOs h5 h e
theorem own_teOs : ∀ {k : Nat} {vs : List V} {ds : List D} {fq : List Addr}, Owns K F H k vs ds fq → ∀ {a : Addr} {o : HO}, a ∈ fq → H a = some o → isTE o = false
  | _, _, _, _, .nil, a, o, h, _ => by cases h
  | _, _, _, _, .cons h1 h2 _, a, o, h, e => by
    rcases List.mem_append.mp h with h | h
    · exact own_teO h1 h e
    · exact own_teOs h2 h e
end
theorem own_te : ∀ {σ : L2.St} {ρ : Env} {fp : List Addr}, Rel K F H σ ρ fp → ∀ {a : Addr} {o : HO}, a ∈ fp → H a = some o → isTE o = false
  | _, _, _, .nil, a, o, h, _ => by cases h
  | _, _, _, .no r, a, o, h, e => own_te r h e
  | _, _, _, .sl ow r _, a, o, h, e => by
    rcases List.mem_append.mp h with h | h
    · exact own_teO ow h e
    · exact own_te r h e
/-- an owned object is written -/
theorem SI.write {i : Nat} {a : Addr} {d d' : D} {o : HO} {F' : Hp} (si : SI K F0 H0 F H σ ρ fp) (hi : ρ[i]? = some (some (1, d))) (hσ : σ[i]? = some (some (.ref a))) (ha : a ∈ fp) (hone : ∀ fq, Own K F H 1 (.ref a) d fq → fq = [a])
    (new : Own K F (upd H a o) 1 (.ref a) d' [a]) : ∃ fp', SI K F0 H0 F (upd H a o) σ (ρ.set i (some (1, d'))) fp' := by
  have ha0 : H0 a = none := si.fr a ha
  have haF : F a = none := (si.rel.loose a ha).1
  obtain ⟨fp', h1, h2⟩ := si.rel.upd_slot (F' := F) (H' := upd H a o) (k' := 1) (d' := d') hi (.refl _) fun v fq hv ho hin => by
    rw [hσ] at hv; cases hv
    have e := hone fq ho
    subst e
    refine ⟨[a], new, fun b hb => hb, fun b hb hn => ⟨upd_ne fun z => hn (by simp [z]), (si.rel.loose b hb).1⟩⟩
  obtain ⟨_, oo, hoo, _, _, nt⟩ := si.rel.loose a ha
  exact ⟨fp', si.st.updD haF ha0 hoo (own_te si.rel ha hoo), h1, fun b hb => si.fr b (h2 b hb)⟩
end
end PV

set_option Elab.async false
set_option linter.all false
set_option maxRecDepth 100000
set_option maxHeartbeats 2000000
/-! PV, part R: statements, rule by rule. -/
namespace PV
open PySem PySem.Spec PyProof.Rows L2 LamX NdefX
variable [Tabl]
def EndOk (K : PySem.W.Frag) (F0 H0 : Hp) (D : Ends) : Out → Prop
  | .nx ρ => ∀ F H σ fp, SI K F0 H0 F H σ ρ fp → D.nx σ H
  | .rt k d => ∀ v F H fq, Stp F0 H0 F H → Own K F H k v d fq → (∀ a ∈ fq, H0 a = none) → D.rt v H
  | .br ρ => ∀ F H σ fp, SI K F0 H0 F H σ ρ fp → D.bk σ H
  | .ct ρ => ∀ F H σ fp, SI K F0 H0 F H σ ρ fp → D.ct σ H
def StOk (K : PySem.W.Frag) (W : TS) (f : Env → Option Out) : Prop := ∀ F0 H0 F H σ ρ fp out D, SI K F0 H0 F H σ ρ fp → f ρ = some out → EndOk K F0 H0 D out → W D σ H
/-- an evaluation within a body, by e -/
def BE (K : PySem.W.Frag) (W : TE) (e : Env → Option (Nat × D × Env)) : Prop := ∀ F0 H0 F H σ ρ fp k d ρ', SI K F0 H0 F H σ ρ fp → e ρ = some (k, d, ρ') → ∀ Q, Got K F0 H0 σ ρ' k d Q → W σ H Q
section
variable {X : Cx} {C : Fn → List D → List Str → List D → Option (Nat × D)} {G : Glo} {e : Expr} {E : Exp} {pos : Pos}
/-- what a statement x = e reads -/
def WU (X : Cx) (st : Stmt) (i : Nat) : TE := fun σ H Q => ∀ D : Ends, Q = (fun x H1 => D.nx (σ.set i (some x)) H1) → WS X st D σ H
theorem wu_lock {st : Stmt} {i : Nat} : Lockable (WU X st i) := fun σ H Q p kvs h q D hQ => by
  subst hQ
  exact ws_of (ps_lock ps_W) ⟨p, .dK kvs, h, True.intro, fun od => q od ⟨fun σ' H' => H' p = some (.frz od (.dK kvs)) ∧ D.nx σ' (upd H' p (.dK kvs)), fun v H' => H' p = some (.frz od (.dK kvs)) ∧ D.rt v (upd H' p (.dK kvs)), fun σ' H' => H' p = some (.frz od (.dK kvs)) ∧ D.bk σ' (upd H' p (.dK kvs)), fun σ' H' => H' p = some (.frz od (.dK kvs)) ∧ D.ct σ' (upd H' p (.dK kvs))⟩ rfl⟩
theorem be_of {W : TE} (h : ∀ σ F ρ k d, SlotR X.K F σ ρ → ev C G E ρ = some (k, d) → EvDW X.K W σ F k d) : BE X.K W (evS C G E) := fun F0 H0 F H σ ρ fp k d ρ' si he Q q => by
  unfold evS at he
  split at he
  · rename_i k' d' hev
    cases he
    exact evS_ok si (fun G' sr => h σ G' _ k d sr hev) q
  · cases he
theorem bt_ok {c : Expr} (h : ∀ σ F ρ b k, SlotR X.K F σ ρ → ev C G E ρ = some (k, .bl b) → EvT X c σ F b) {F0 H0 F H : Hp} {σ : L2.St} {ρ : Env} {fp : List Addr} {b : Bool} (si : SI X.K F0 H0 F H σ ρ fp) (he : evB C G E ρ = some b) {Q : Bool → Hp → Prop}
    (q : ∀ F' H', SI X.K F0 H0 F' H' σ ρ fp → Q b H') : WT X c σ H Q := by
  unfold evB at he
  split at he
  · rename_i k' b' hev
    cases he
    obtain ⟨G', fo, s1, eg, sr, s2⟩ := si_split si (fv E)
    refine h σ G' _ _ _ sr hev G' H (.refl _) s1.st.fh Q fun F2 H2 st => ?_
    obtain ⟨F3, S, s3, _, _, _⟩ := s2 F2 H2 st
    exact q F3 H2 s3
  · cases he

/-! ### x = e -/
theorem st_set {st : Stmt} {i : Nat} (h : BE X.K (WU X st i) (evS C G E)) : StOk X.K (WS X st) (fun ρ => match evS C G E ρ with | some (k, d, ρ') => some (.nx (ρ'.set i (some (k, d)))) | none => none) := fun F0 H0 F H σ ρ fp out D si hf hD => by
  dsimp only at hf
  split at hf
  · rename_i k d ρ' he
    cases hf
    refine h F0 H0 F H σ ρ fp k d ρ' si he (fun x H1 => D.nx (σ.set i (some x)) H1) (fun v F' H' fp' fq s' o n fr => ?_) D rfl
    obtain ⟨fp2, s2⟩ := s'.put i o n fr
    exact hD _ _ _ _ s2
  · cases hf
/-! ### return -/
theorem st_ret (h : BE X.K (WE X e) (evS C G E)) : StOk X.K (WS X (.Return (some e) pos)) (fun ρ => match evS C G E ρ with | some (k, d, _) => some (.rt k d) | none => none) := fun F0 H0 F H σ ρ fp out D si hf hD => by
  dsimp only at hf
  split at hf
  · rename_i k d ρ' he
    cases hf
    exact ws_of (ps_ret pe_W) (h F0 H0 F H σ ρ fp k d ρ' si he D.rt fun v F' H' fp' fq s' o n fr => hD v F' H' fq s'.st o fr)
  · cases hf
theorem st_retv {i : Nat} {n : Str} {p2 : Pos} (hN : X.N[i]? = some n) (hv : Vis X.env.scope n) (hd : (n == ("__debug__" : Str)) = false) (hcd : (n == ("__classdict__" : Str)) = false) : StOk X.K (WS X (.Return (some (.Name n p2)) pos)) (fun ρ => match ρ[i]? with | some (some (k, d)) => some (.rt k d) | _ => none) := fun F0 H0 F H σ ρ fp out D si hf hD => by
  dsimp only at hf
  split at hf
  · rename_i k d hi
    cases hf
    obtain ⟨v, fq, h1, h2, h3⟩ := si.rel.get hi
    exact ws_of (ps_ret (pe_var hN hv hd hcd)) ⟨v, h1, hD v F H fq si.st h2 fun a ha => si.fr a (h3 a ha)⟩
  · cases hf
theorem st_retn : StOk X.K (WS X (.Return none pos)) (fun _ => some (.rt 0 .non)) := fun F0 H0 F H σ ρ fp out D si hf hD => by
  cases hf
  exact ws_of ps_retN (hD .non F H [] si.st (.frz .non) (by simp))
theorem st_pass : StOk X.K (WS X (.Pass pos)) (fun ρ => some (.nx ρ)) := fun F0 H0 F H σ ρ fp out D si hf hD => by
  cases hf; exact ws_of ps_pass (hD _ _ _ _ si)
theorem st_brk : StOk X.K (WS X (.Break pos)) (fun ρ => some (.br ρ)) := fun F0 H0 F H σ ρ fp out D si hf hD => by
  cases hf; exact ws_of ps_break (hD _ _ _ _ si)
theorem st_cnt : StOk X.K (WS X (.Continue pos)) (fun ρ => some (.ct ρ)) := fun F0 H0 F H σ ρ fp out D si hf hD => by
  cases hf; exact ws_of ps_continue (hD _ _ _ _ si)
theorem st_nil : StOk X.K (WSs X []) (fun ρ => some (.nx ρ)) := fun F0 H0 F H σ ρ fp out D si hf hD => by
  cases hf; exact wss_of pss_nil (hD _ _ _ _ si)
theorem st_cons {st : Stmt} {rest : List Stmt} {f g : Env → Option Out} (h1 : StOk X.K (WS X st) f) (h2 : StOk X.K (WSs X rest) g) : StOk X.K (WSs X (st :: rest)) (fun ρ => match f ρ with | some (.nx ρ') => g ρ' | some o => some o | none => none) := fun F0 H0 F H σ ρ fp out D si hf hD => by
  dsimp only at hf
  refine wss_of (pss_cons ps_W pss_W) ?_
  split at hf
  · rename_i ρ' he
    exact h1 F0 H0 F H σ ρ fp _ _ si he fun F' H' σ' fp' s' => h2 F0 H0 F' H' σ' ρ' fp' out D s' hf hD
  · rename_i o hno he
    cases hf
    refine h1 F0 H0 F H σ ρ fp _ _ si he ?_
    cases out with
    | nx ρ' => exact absurd rfl (hno ρ')
    | rt k d => exact hD
    | br ρ' => exact hD
    | ct ρ' => exact hD
  · cases hf
theorem st_if {c : Expr} {a b : List Stmt} {f g : Env → Option Out} (hc : ∀ σ F ρ b k, SlotR X.K F σ ρ → ev C G E ρ = some (k, .bl b) → EvT X c σ F b) (ha : StOk X.K (WSs X a) f) (hb : StOk X.K (WSs X b) g) :
    StOk X.K (WS X (.If c a b pos)) (fun ρ => match evB C G E ρ with | some true => f ρ | some false => g ρ | none => none) := fun F0 H0 F H σ ρ fp out D si hf hD => by
  dsimp only at hf
  refine ws_of (ps_if pt_W pss_W pss_W) ?_
  split at hf
  · rename_i he
    exact bt_ok hc si he fun F' H' s' => iteT (ha F0 H0 F' H' σ ρ fp out D s' hf hD)
  · rename_i he
    exact bt_ok hc si he fun F' H' s' => iteF (hb F0 H0 F' H' σ ρ fp out D s' hf hD)
  · cases hf
theorem st_whl {c : Expr} {b : List Stmt} {f : Env → Option Out} (hp : PassesOwn (model X.prog X.w) X.A X.env X.xe) (hc : ∀ σ F ρ b k, SlotR X.K F σ ρ → ev C G E ρ = some (k, .bl b) → EvT X c σ F b) (hb : StOk X.K (WSs X b) f) (w : Nat) :
    StOk X.K (WS X (.While c b [] pos)) (fun ρ => whlL (fun r => evB C G E r) f w ρ) := fun F0 H0 F H σ ρ fp out D si hf hD => by
  refine ws_of (ps_while hp pt_W pss_W) ⟨fun m σ' H' => ∃ F' ρ' fp', SI X.K F0 H0 F' H' σ' ρ' fp' ∧ whlL (fun r => evB C G E r) f m ρ' = some out, ⟨w, F, ρ, fp, si, hf⟩, ?_⟩
  rintro m σ1 H1 ⟨F1, ρ1, fp1, s1, hw⟩
  cases m with
  | zero => cases hw
  | succ m =>
    unfold whlL at hw
    split at hw
    · rename_i he
      refine bt_ok hc s1 he fun F2 H2 s2 => iteT ⟨fun σ' H' => ∃ F' ρ' fp', SI X.K F0 H0 F' H' σ' ρ' fp' ∧ whlL (fun r => evB C G E r) f m ρ' = some out, fun σ' H' h => ⟨m, Nat.lt_succ_self m, h⟩, ?_⟩
      split at hw
      · rename_i ρ2 hfb
        exact hb F0 H0 F2 H2 σ1 ρ1 fp1 _ _ s2 hfb fun F' H' σ' fp' s' => ⟨F', ρ2, fp', s', hw⟩
      · rename_i ρ2 hfb
        exact hb F0 H0 F2 H2 σ1 ρ1 fp1 _ _ s2 hfb fun F' H' σ' fp' s' => ⟨F', ρ2, fp', s', hw⟩
      · rename_i ρ2 hfb
        cases hw
        exact hb F0 H0 F2 H2 σ1 ρ1 fp1 _ _ s2 hfb fun F' H' σ' fp' s' => hD F' H' σ' fp' s'
      · rename_i k d hfb
        cases hw
        exact hb F0 H0 F2 H2 σ1 ρ1 fp1 _ _ s2 hfb hD
      · cases hw
    · rename_i he
      cases hw
      exact bt_ok hc s1 he fun F2 H2 s2 => iteF (hD F2 H2 σ1 fp1 s2)
    · cases hw
theorem st_for {tg iter : Expr} {b : List Stmt} {t : Tg} {f : Env → Option Out} (hp : PassesOwn (model X.prog X.w) X.A X.env X.xe) (hcalm : X.calm = true) (hfold : ∀ v, foldedSetIterable iter X.env v = pure v) (hg : PG X tg (gOf X.K t))
    (hi : ∀ σ F ρ ds, SlotR X.K F σ ρ → isDicE C G E ρ = false → evI C G E ρ = some ds → EvI X tg iter σ F ds) (hb : StOk X.K (WSs X b) f) :
    StOk X.K (WS X (.For tg iter b [] pos)) (fun ρ => match evW C G E ρ with | some (ds, ρ') => forL t f ds ρ' | none => none) := fun F0 H0 F H σ ρ fp out D si hf hD => by
  dsimp only at hf
  split at hf
  · rename_i ds ρ' he
    unfold evW at he
    split at he
    · cases he
    · rename_i hnd
      split at he
      · rename_i ds' hev
        cases he
        obtain ⟨G', fo, s1, eg, sr, s2⟩ := si_split si (fv E)
        refine ws_of (ps_for hp hcalm pi_W hg pss_W hfold) (hi σ G' _ ds sr (by simpa using hnd) hev G' H (.refl _) s1.st.fh _ fun J F2 H2 st wk => ?_)
        have sA : SI X.K F0 H0 F2 H2 σ (freeze (fv E) 0 ρ) fo := ⟨s1.st.trans st, s1.rel.stp st, s1.fr⟩
        refine ⟨fun i m σ' H' => i + m = ds.length ∧ ∃ F' ρ' fp', SI X.K F2 (mix F2 H0) F' H' σ' ρ' fp' ∧ forL t f (ds.drop i) ρ' = some out,
          ⟨ds.length, by omega, F2, _, fo, sA.rebase, by rw [List.drop_zero]; exact hf⟩, ?_⟩
        rintro i m σ1 H1 ⟨hm, F1, ρ1, fp1, s3, hl⟩
        by_cases hlt : i < ds.length
        · obtain ⟨d, hd⟩ := getElem?_lt hlt
          have hdrop : ds.drop i = d :: ds.drop (i + 1) := by
            obtain ⟨hl', e⟩ := List.getElem?_eq_some_iff.mp hd
            rw [← e]; exact List.drop_eq_getElem_cons hl'
          rw [hdrop] at hl
          unfold forL at hl
          refine .inr ⟨wk.go i H1 (s3.st.ff.trans s3.st.fh) hlt, fun σ' H' => i + 1 + (m - 1) = ds.length ∧ ∃ F' ρ' fp', SI X.K F2 (mix F2 H0) F' H' σ' ρ' fp' ∧ forL t f (ds.drop (i + 1)) ρ' = some out, fun σ' H' h => ⟨m - 1, by omega, h⟩, fun x Hx hy => ?_⟩
          obtain ⟨Fx, sx, dx⟩ := wk.yld i H1 x Hx d F1 s3.st.ff s3.st.fh hd hy
          have s4 : SI X.K F2 (mix F2 H0) Fx Hx σ1 ρ1 fp1 := ⟨s3.st.trans sx, s3.rel.stp sx, s3.fr⟩
          split at hl
          · cases hl
          · rename_i ρ2 hasg
            refine asgE_ok s4 dx hasg fun σ2 fp2 s5 => ?_
            split at hl
            · rename_i ρ3 hfb
              exact hb F2 (mix F2 H0) Fx Hx σ2 ρ2 fp2 _ _ s5 hfb fun F' H' σ' fp' s' => ⟨by omega, F', ρ3, fp', s', hl⟩
            · rename_i ρ3 hfb
              exact hb F2 (mix F2 H0) Fx Hx σ2 ρ2 fp2 _ _ s5 hfb fun F' H' σ' fp' s' => ⟨by omega, F', ρ3, fp', s', hl⟩
            · rename_i ρ3 hfb
              cases hl
              exact hb F2 (mix F2 H0) Fx Hx σ2 ρ2 fp2 _ _ s5 hfb fun F' H' σ' fp' s' => hD F' H' σ' fp' (s'.back sA.st)
            · rename_i k dd hfb
              cases hl
              exact hb F2 (mix F2 H0) Fx Hx σ2 ρ2 fp2 _ _ s5 hfb fun v F' H' fq st' o fr => hD v F' H' fq (sA.st.back st') o fun a ha => fr_back (fr a ha)
            · cases hl
        · have e : i = ds.length := by omega
          subst e
          rw [List.drop_length] at hl
          cases hl
          exact .inl ⟨wk.stop H1 (s3.st.ff.trans s3.st.fh), hD F1 H1 σ1 fp1 (s3.back sA.st)⟩
      · cases he
  · cases hf
end
end PV

set_option Elab.async false
set_option linter.all false
set_option maxRecDepth 100000
set_option maxHeartbeats 2000000
/-! PV, part S: statements that write. -/
namespace PV
open PySem PySem.Spec PyProof.Rows L2 LamX NdefX
variable [Tabl]
theorem freeze_len (m : List Nat) : ∀ (i0 : Nat) (r : Env), (freeze m i0 r).length = r.length
  | _, [] => rfl
  | i0, none :: r => by simp [freeze, freeze_len m (i0 + 1) r]
  | i0, some s :: r => by simp [freeze, freeze_len m (i0 + 1) r]
theorem freeze_tell (m : List Nat) : ∀ (i0 : Nat) (r : Env) (j : Nat) (z : Nat × D), (freeze m i0 r)[j]? = some (some z) → ∃ z', r[j]? = some (some z')
  | _, [], j, z, h => by simp [freeze] at h
  | i0, none :: r, 0, z, h => by simp [freeze] at h
  | i0, some s :: r, 0, z, h => ⟨s, rfl⟩
  | i0, none :: r, j + 1, z, h => freeze_tell m (i0 + 1) r j z (by simpa [freeze] using h)
  | i0, some s :: r, j + 1, z, h => freeze_tell m (i0 + 1) r j z (by simpa [freeze] using h)
theorem evS_tell {C : Fn → List D → List Str → List D → Option (Nat × D)} {G : Glo} {A : Exp} {ρ ρ' : Env} {k : Nat} {y : D} {i : Nat} {z : Nat × D} (h : evS C G A ρ = some (k, y, ρ')) (hx : ρ'[i]? = some (some z)) : ∃ z', ρ[i]? = some (some z') := by
  unfold evS at h
  split at h
  · cases h
    split at hx
    · exact ⟨_, hx⟩
    · exact freeze_tell _ _ _ _ _ hx
  · cases h
section
variable {X : Cx} {C : Fn → List D → List Str → List D → Option (Nat × D)} {G : Glo} {e a b : Expr} {E A B : Exp} {pos apos : Pos} {n : Str} {p2 : Pos} {i : Nat}
/-- a name that stands in slot i, as it is read -/
structure Nm (X : Cx) (n : Str) (i : Nat) : Prop where
  N : X.N[i]? = some n
  v : Vis X.env.scope n
  d : (n == ("__debug__" : Str)) = false
  c : (n == ("__classdict__" : Str)) = false
theorem Nm.pe (h : Nm X n i) {pos : Pos} : PE X (.Name n pos) (tVar i) := pe_var h.N h.v h.d h.c
theorem own_lst_inv {K : PySem.W.Frag} {F H : Hp} {v : V} {ds : List D} {fq : List Addr} (h : Own K F H 1 v (.lst ds) fq) : ∃ a vs, v = .ref a ∧ fq = [a] ∧ H a = some (.lst vs) ∧ F a = none ∧ Dats K F vs ds ∧ ds.length ≤ cap := by
  cases h with
  | sc i _ => simp [imm] at i
  | lst h1 h2 h3 h4 h5 =>
    obtain ⟨rfl, hd⟩ := owns_nil h3
    exact ⟨_, _, rfl, rfl, h1, h2, hd, h5⟩
theorem own_dic_inv {K : PySem.W.Frag} {F H : Hp} {v : V} {ds : List (Key × D)} {fq : List Addr} (h : Own K F H 1 v (.dic ds) fq) : ∃ a kvs, v = .ref a ∧ fq = [a] ∧ H a = some (.dK kvs) ∧ F a = none ∧ kvs.map (·.1) = ds.map (·.1) ∧ Dats K F (kvs.map (·.2)) (ds.map (·.2)) ∧ ds.length ≤ cap := by
  cases h with
  | sc i _ => simp [imm] at i
  | dic h1 h2 e h3 h4 h5 =>
    obtain ⟨rfl, hd⟩ := owns_nil h3
    exact ⟨_, _, rfl, rfl, h1, h2, e, hd, h5⟩
theorem own_dicT_inv {K : PySem.W.Frag} {F H : Hp} {v : V} {ds : List (List Key × D)} {fq : List Addr} (h : Own K F H 1 v (.dicT ds) fq) : ∃ a kvs, v = .ref a ∧ fq = [a] ∧ H a = some (.dT kvs) ∧ F a = none ∧ kvs.map (·.1) = ds.map (·.1) ∧ Dats K F (kvs.map (·.2)) (ds.map (·.2)) ∧ ds.length ≤ cap := by
  cases h with
  | sc i _ => simp [imm] at i
  | dicT h1 h2 e h3 h4 h5 =>
    obtain ⟨rfl, hd⟩ := owns_nil h3
    exact ⟨_, _, rfl, rfl, h1, h2, e, hd, h5⟩
theorem st_app (nm : Nm X n i) (h : BE X.K (WE X e) (evS C G E)) (na : Pl X e) (hline : (apos.endLine == pos.line) = true) {spos : Pos} : StOk X.K (WS X (.Expr (.Call (.Attribute (.Name n p2) "append" apos) [e] [] pos) spos)) (fun ρ => match ρ[i]? with
    | some (some (1, .lst _)) => match evS C G E ρ with
      | some (_, d, ρ') => match ρ'[i]? with
        | some (some (1, .lst xs)) => if xs.length < cap then some (.nx (ρ'.set i (some (1, .lst (xs ++ [d]))))) else none
        | _ => none
      | none => none
    | _ => none) := fun F0 H0 F H σ ρ fp out D si hf hD => by
  dsimp only at hf
  split at hf
  · rename_i xs0 h0
    split at hf
    · rename_i k d ρ' he
      split at hf
      · rename_i xs hx
        obtain ⟨hl, e'⟩ := if_some hf
        cases e'
        obtain ⟨v0, fq0, hσ, o0, in0⟩ := si.rel.get h0
        obtain ⟨l, vs0, rfl, rfl, hH0, hF0, _, _⟩ := own_lst_inv o0
        refine ws_of (ps_expr (pe_bm PySem.F.plainAttrs_list PySem.F.slot_list_append PySem.F.type_list_append mt_append nm.pe (pa_cons pe_W pa_nil (na _)) rfl (few1 na) hline (na _) rfl) rfl) ⟨_, hσ, .inl ⟨rfl, _, .of hH0⟩, ?_⟩
        refine h F0 H0 F H σ ρ fp k d ρ' si he _ fun v F' H' fp' fq s' o nin fr => ?_
        obtain ⟨F2, ef, s2, dv⟩ := s'.fix o nin fr
        obtain ⟨v1, fq1, hσ1, o1, in1⟩ := s2.rel.get hx
        rw [hσ] at hσ1
        cases hσ1
        obtain ⟨l', vs, e1, rfl, hH, hF, hd, hlen⟩ := own_lst_inv o1
        cases e1
        refine ⟨l, vs, v, rfl, rfl, hH, cap_lt (by rw [hd.length]; omega), ?_⟩
        obtain ⟨fp3, s3⟩ := s2.write (o := .lst (vs ++ [v])) (F' := F2) (d' := .lst (xs ++ [d])) hx hσ (in1 l (by simp)) (fun fq' ho => by
          obtain ⟨l2, _, e2, rfl, _⟩ := own_lst_inv ho
          cases e2; rfl) (.lst upd_same hF (owns_zero (hd.app (.one dv))) (by simp) (by rw [List.length_append]; exact hl))
        exact hD _ _ _ _ s3
      · cases hf
    · cases hf
  · cases hf
theorem st_ext (nm : Nm X n i) (h : BE X.K (WE X e) (evS C G E)) (na : Pl X e) (hline : (apos.endLine == pos.line) = true) {spos : Pos} : StOk X.K (WS X (.Expr (.Call (.Attribute (.Name n p2) "extend" apos) [e] [] pos) spos)) (fun ρ => match ρ[i]? with
    | some (some (1, .lst _)) => match evS C G E ρ with
      | some (_, .lst ys, ρ') => match ρ'[i]? with
        | some (some (1, .lst xs)) => if xs.length + ys.length ≤ cap then some (.nx (ρ'.set i (some (1, .lst (xs ++ ys))))) else none
        | _ => none
      | _ => none
    | _ => none) := fun F0 H0 F H σ ρ fp out D si hf hD => by
  dsimp only at hf
  split at hf
  · rename_i xs0 h0
    split at hf
    · rename_i k ys ρ' he
      split at hf
      · rename_i xs hx
        obtain ⟨hl, e'⟩ := if_some hf
        cases e'
        obtain ⟨v0, fq0, hσ, o0, in0⟩ := si.rel.get h0
        obtain ⟨l, vs0, rfl, rfl, hH0, hF0, _, _⟩ := own_lst_inv o0
        refine ws_of (ps_expr (pe_bm PySem.F.plainAttrs_list PySem.F.slot_list_extend PySem.F.type_list_extend mt_extend nm.pe (pa_cons pe_W pa_nil (na _)) rfl (few1 na) hline (na _) rfl) rfl) ⟨_, hσ, .inl ⟨rfl, _, .of hH0⟩, ?_⟩
        refine h F0 H0 F H σ ρ fp k _ ρ' si he _ fun v F' H' fp' fq s' o nin fr => ?_
        obtain ⟨F2, ef, s2, dv⟩ := s'.fix o nin fr
        obtain ⟨v1, fq1, hσ1, o1, in1⟩ := s2.rel.get hx
        rw [hσ] at hσ1
        cases hσ1
        obtain ⟨l', vs, e1, rfl, hH, hF, hd, hlen⟩ := own_lst_inv o1
        cases e1
        cases dv with
        | lst g1 g2 g3 =>
          have l1 := hd.length
          have l2 := g2.length
          refine ⟨l, _, vs, _, rfl, rfl, hH, s2.st.fh.get g1, cap_le (by omega), ?_⟩
          obtain ⟨fp3, s3⟩ := s2.write (o := .lst (vs ++ _)) (F' := F2) (d' := .lst (xs ++ ys)) hx hσ (in1 l (by simp)) (fun fq' ho => by
            obtain ⟨l2, _, e2, rfl, _⟩ := own_lst_inv ho
            cases e2; rfl) (.lst upd_same hF (owns_zero (hd.app g2)) (by simp) (by rw [List.length_append]; exact hl))
          exact hD _ _ _ _ s3
      · cases hf
    · cases hf
  · cases hf
/-- x[k] = e -/
theorem st_seti (hu : X.A.units + 64 < cLine) (nm : Nm X n i) (h : BE X.K (WE X e) (evS C G E)) (hk : BE X.K (WE X a) (evS C G A)) (hs : ∀ t l, swapsWith e (some (.Subscript (.Name n p2) a t)) l X.env = pure false) (hw : ∀ t, swappedStores [.Subscript (.Name n p2) a t] e X.env = pure none)
    (hsl : ∀ t v, assign (.Subscript (.Name n p2) a t) X.env v = (do let ov ← holding [v] (eval (.Name n p2) X.env); let iv ← holding [v, ov] (eval a X.env); standAt t; holding [v, ov, iv] (setItem ov iv v); release [v, ov, iv] [])) {spos : Pos} :
    StOk X.K (WS X (.Assign [.Subscript (.Name n p2) a pos] e spos)) (fun ρ => match evS C G E ρ with
    | some (_, v, ρ1) => match evS C G A ρ1 with
      | some (_, y, ρ2) => match ρ2[i]? with
        | some (some (1, d)) => match putAt d y v with
          | some d' => some (.nx (ρ2.set i (some (1, d'))))
          | none => none
        | _ => none
      | none => none
    | none => none) := fun F0 H0 F H σ ρ fp out D si hf hD => by
  dsimp only at hf
  split at hf
  · rename_i k v ρ1 he
    split at hf
    · rename_i k2 y ρ2 hy
      split at hf
      · rename_i d hx
        split at hf
        · rename_i d' hput
          cases hf
          -- the value, then the key, in states of the heap that has the value
          have go : ∀ {W : V → V → Hp → Prop} (q : ∀ vv yv F' H' fp', SI X.K F0 H0 F' H' σ ρ2 fp' → Dat X.K F' vv v → Dat X.K F' yv y → W vv yv H'), WE X e σ H fun vv H1 => ∃ u, σ[i]? = some (some u) ∧ WE X a σ H1 fun yv H2 => W vv yv H2 := fun {W} q => by
            refine h F0 H0 F H σ ρ fp k v ρ1 si he _ fun vv F1 H1 fp1 fq s1 o nin fr => ?_
            obtain ⟨F2, ef, s2, dv⟩ := s1.fix o nin fr
            obtain ⟨u, hu⟩ : ∃ u, σ[i]? = some (some u) := by
              obtain ⟨⟨kz, dz⟩, hz⟩ := evS_tell hy hx
              obtain ⟨v', _, hv', _⟩ := s2.rel.get hz
              exact ⟨v', hv'⟩
            refine ⟨u, hu, hk F2 (mix F2 H0) F2 H1 σ ρ1 fp1 k2 y ρ2 s2.rebase hy _ fun yv F3 H3 fp3 fq3 s3 o3 nin3 fr3 => ?_⟩
            obtain ⟨F4, ef4, s4, dy⟩ := s3.fix o3 nin3 fr3
            exact q vv yv F4 H3 fp3 (s4.back s2.st) (dv.mono s4.st.ff) dy
          cases d with
          | dic kvs =>
            simp only [putAt] at hput
            split at hput
            · rename_i key hkey
              obtain ⟨hl, rfl⟩ := if_some hput
              refine ws_of (ps_dput (by omega) nm.pe pe_W pe_W (hs _ _)) ?_
              show WE X e σ H fun vv H1 => ∃ u, σ[i]? = some (some u) ∧ WE X a σ H1 fun yv H2 => ∃ a H4, u = .ref a ∧ DPut H2 a yv vv H4 ∧ D.nx σ H4
              have := go (W := fun vv yv H2 => ∀ u, σ[i]? = some (some u) → ∃ a H4, u = .ref a ∧ DPut H2 a yv vv H4 ∧ D.nx σ H4) fun vv yv F' H' fp' s' dv dy u hu => by
                obtain ⟨v1, fq1, hσ1, o1, in1⟩ := s'.rel.get hx
                rw [hu] at hσ1
                cases hσ1
                obtain ⟨l, ws, rfl, rfl, hH, hF, hkk, hd, hlen⟩ := own_dic_inv o1
                have eky := key_dat dy hkey
                subst eky
                have hwl : ws.length = kvs.length := by simpa using congrArg List.length hkk
                refine ⟨l, _, rfl, .k hH (cap_lt (by omega)), ?_⟩
                obtain ⟨p1, p2⟩ := put_dat (k := key) hkk hd dv
                obtain ⟨fp3, s3⟩ := s'.write (o := .dK (putK ws key vv)) (F' := F') (d' := .dic (putD kvs key v)) hx hu (in1 l (by simp)) (fun fq' ho => by
                  obtain ⟨l2, _, e2, rfl, _⟩ := own_dic_inv ho
                  cases e2; rfl) (.dic upd_same hF p1 (owns_zero p2) (by simp) (Nat.le_trans (putD_le _ _ _) hl))
                exact hD _ _ _ _ s3
              exact fun pins s I => wpAny_mono (this pins s I) (fun z s' ⟨zv, H1, I1, r1, u, hu, q⟩ => ⟨zv, H1, I1, r1, u, hu, fun pins2 s2 I2 => wpAny_mono (q pins2 s2 I2) (fun z2 s2' ⟨zv2, H2, I3, r3, q3⟩ => ⟨zv2, H2, I3, r3, q3 u hu⟩) fun _ _ x => x⟩) fun _ _ x => x
            · cases hput
          | dicT kvs =>
            cases y with
            | tup ks =>
              simp only [putAt] at hput
              split at hput
              · rename_i key hkey
                obtain ⟨hl, rfl⟩ := if_some hput
                refine ws_of (ps_dput (by omega) nm.pe pe_W pe_W (hs _ _)) ?_
                show WE X e σ H fun vv H1 => ∃ u, σ[i]? = some (some u) ∧ WE X a σ H1 fun yv H2 => ∃ a H4, u = .ref a ∧ DPut H2 a yv vv H4 ∧ D.nx σ H4
                have := go (W := fun vv yv H2 => ∀ u, σ[i]? = some (some u) → ∃ a H4, u = .ref a ∧ DPut H2 a yv vv H4 ∧ D.nx σ H4) fun vv yv F' H' fp' s' dv dy u hu => by
                  obtain ⟨v1, fq1, hσ1, o1, in1⟩ := s'.rel.get hx
                  rw [hu] at hσ1
                  cases hσ1
                  obtain ⟨l, ws, rfl, rfl, hH, hF, hkk, hd, hlen⟩ := own_dicT_inv o1
                  cases dy with
                  | tup g1 g2 g3 =>
                    have eky := keys_dat g2 hkey
                    subst eky
                    have hwl : ws.length = kvs.length := by simpa using congrArg List.length hkk
                    refine ⟨l, _, rfl, .t hH (s'.st.fh.get g1) (cap_lt (by omega)), ?_⟩
                    obtain ⟨p1, p2⟩ := put_dat (k := key) hkk hd dv
                    obtain ⟨fp3, s3⟩ := s'.write (o := .dT (putK ws key vv)) (F' := F') (d' := .dicT (putD kvs key v)) hx hu (in1 l (by simp)) (fun fq' ho => by
                      obtain ⟨l2, _, e2, rfl, _⟩ := own_dicT_inv ho
                      cases e2; rfl) (.dicT upd_same hF p1 (owns_zero p2) (by simp) (Nat.le_trans (putD_le _ _ _) hl))
                    exact hD _ _ _ _ s3
                exact fun pins s I => wpAny_mono (this pins s I) (fun z s' ⟨zv, H1, I1, r1, u, hu, q⟩ => ⟨zv, H1, I1, r1, u, hu, fun pins2 s2 I2 => wpAny_mono (q pins2 s2 I2) (fun z2 s2' ⟨zv2, H2, I3, r3, q3⟩ => ⟨zv2, H2, I3, r3, q3 u hu⟩) fun _ _ x => x⟩) fun _ _ x => x
              · cases hput
            | _ => cases hput
          | lst xs =>
            cases y with
            | int ix =>
              simp only [putAt] at hput
              split at hput
              · rename_i j hj
                cases hput
                refine ws_of (ps_asg pe_W (pg_sub nm.pe pe_W set_list (hsl _)) (show swapsWithSole [.Subscript (.Name n p2) a pos] e spos.line X.env = pure false from hs pos spos.line) (hw _) rfl) ?_
                show WE X e σ H fun vv H1 => ∃ u, σ[i]? = some (some u) ∧ WE X a σ H1 fun yv H2 => rSetL u yv vv H2 fun H3 => D.nx σ H3
                have := go (W := fun vv yv H2 => ∀ u, σ[i]? = some (some u) → rSetL u yv vv H2 fun H3 => D.nx σ H3) fun vv yv F' H' fp' s' dv dy u hu => by
                  obtain ⟨v1, fq1, hσ1, o1, in1⟩ := s'.rel.get hx
                  rw [hu] at hσ1
                  cases hσ1
                  obtain ⟨l, ws, rfl, rfl, hH, hF, hd, hlen⟩ := own_lst_inv o1
                  cases dy
                  refine ⟨l, ws, ix, j, rfl, rfl, hH, by rw [hd.length]; exact hj, ?_⟩
                  obtain ⟨fp3, s3⟩ := s'.write (o := .lst (ws.set j vv)) (F' := F') (d' := .lst (xs.set j v)) hx hu (in1 l (by simp)) (fun fq' ho => by
                    obtain ⟨l2, _, e2, rfl, _⟩ := own_lst_inv ho
                    cases e2; rfl) (.lst upd_same hF (owns_zero (hd.set dv j)) (by simp) (by rw [List.length_set]; exact hlen))
                  exact hD _ _ _ _ s3
                exact fun pins s I => wpAny_mono (this pins s I) (fun z s' ⟨zv, H1, I1, r1, u, hu, q⟩ => ⟨zv, H1, I1, r1, u, hu, fun pins2 s2 I2 => wpAny_mono (q pins2 s2 I2) (fun z2 s2' ⟨zv2, H2, I3, r3, q3⟩ => ⟨zv2, H2, I3, r3, q3 u hu⟩) fun _ _ x => x⟩) fun _ _ x => x
              · cases hput
            | _ => cases hput
          | _ => cases hput
        · cases hf
      · cases hf
    · cases hf
  · cases hf

/-! ### d.pop(k) -/
theorem pop_core (nm : Nm X n i) (hk : BE X.K (WE X a) (evS C G A)) (m : M1 X (.Name n p2) "pop" apos a pos) {F0 H0 F H : Hp} {σ : L2.St} {ρ ρ1 : Env} {fp : List Addr} {kvs0 : List (Key × D)} {k : Nat} {y d v d' : D} {Q : VK}
    (si : SI X.K F0 H0 F H σ ρ fp) (h0 : ρ[i]? = some (some (1, .dic kvs0))) (he : evS C G A ρ = some (k, y, ρ1)) (hx : ρ1[i]? = some (some (1, d))) (hp : popAt d y = some (v, d'))
    (q : ∀ vv F' H' fp', SI X.K F0 H0 F' H' σ (ρ1.set i (some (1, d'))) fp' → Dat X.K F' vv v → Q vv H') : WE X (.Call (.Attribute (.Name n p2) "pop" apos) [a] [] pos) σ H Q := by
  obtain ⟨v0, fq0, hσ, o0, in0⟩ := si.rel.get h0
  obtain ⟨l, vs0, rfl, rfl, hH0, hF0, _, _⟩ := own_dic_inv o0
  refine w_of (pe_dpop1 nm.pe pe_W m) ⟨_, hσ, l, rfl, .inl ⟨_, .of hH0⟩, ?_⟩
  refine hk F0 H0 F H σ ρ fp k y ρ1 si he _ fun yv F' H' fp' fq s' o nin fr => ?_
  obtain ⟨F2, ef, s2, dy⟩ := s'.fix o nin fr
  obtain ⟨v1, fq1, hσ1, o1, in1⟩ := s2.rel.get hx
  rw [hσ] at hσ1
  cases hσ1
  cases d <;> try (cases (show (none : Option (D × D)) = some (v, d') from hp))
  rename_i kvs
  simp only [popAt] at hp
  split at hp
  · rename_i key hkey
    split at hp
    · rename_i v2 hv2
      cases hp
      obtain ⟨l', ws, e1, rfl, hH, hF, hkk, hd, hlen⟩ := own_dic_inv o1
      cases e1
      have eky := key_dat dy hkey
      subst eky
      rcases val_dat key hkk hd with ⟨z1, z2⟩ | ⟨d2, vv, z1, z2, dv⟩
      · rw [z1] at hv2; cases hv2
      · rw [z1] at hv2; cases hv2
        refine ⟨ws, key, vv, hH, rfl, z2, ?_⟩
        obtain ⟨p1, p2⟩ := drop_dat (k := key) hkk hd
        obtain ⟨fp3, s3⟩ := s2.write (o := .dK (dropK ws key)) (F' := F2) (d' := .dic (dropD kvs key)) hx hσ (in1 l (by simp)) (fun fq' ho => by
          obtain ⟨l2, _, e2, rfl, _⟩ := own_dic_inv ho
          cases e2; rfl) (.dic upd_same hF p1 (owns_zero p2) (by simp) (Nat.le_trans (List.length_filter_le _ _) hlen))
        exact q vv _ _ _ s3 dv
    · cases hp
  · cases hp
theorem st_popd (nm : Nm X n i) (hk : BE X.K (WE X a) (evS C G A)) (m : M1 X (.Name n p2) "pop" apos a pos) {spos : Pos} : StOk X.K (WS X (.Expr (.Call (.Attribute (.Name n p2) "pop" apos) [a] [] pos) spos)) (fun ρ => match ρ[i]? with
    | some (some (1, .dic _)) => match evS C G A ρ with
      | some (_, y, ρ1) => match ρ1[i]? with
        | some (some (1, d)) => match popAt d y with
          | some (_, d') => some (.nx (ρ1.set i (some (1, d'))))
          | none => none
        | _ => none
      | none => none
    | _ => none) := fun F0 H0 F H σ ρ fp out D si hf hD => by
  dsimp only at hf
  split at hf
  · rename_i kvs0 h0
    split at hf
    · rename_i k y ρ1 he
      split at hf
      · rename_i d hx
        split at hf
        · rename_i v d' hp
          cases hf
          exact ws_of (ps_expr pe_W rfl) (pop_core nm hk m si h0 he hx hp fun vv F' H' fp' s' _ => hD _ _ _ _ s')
        · cases hf
      · cases hf
    · cases hf
  · cases hf
theorem st_popx {j : Nat} {x : Str} {p3 : Pos} (nm : Nm X n i) (hk : BE X.K (WE X a) (evS C G A)) (m : M1 X (.Name n p2) "pop" apos a pos) (hN : X.N.Nodup) (hj : X.N[j]? = some x) (hx : Loc X.env.scope x) (hfn : X.fn x = true ∨ X.env.scope.names.lookup x = some .local) {spos : Pos} :
    StOk X.K (WS X (.Assign [.Name x p3] (.Call (.Attribute (.Name n p2) "pop" apos) [a] [] pos) spos)) (fun ρ => match ρ[i]? with
    | some (some (1, .dic _)) => match evS C G A ρ with
      | some (_, y, ρ1) => match ρ1[i]? with
        | some (some (1, d)) => match popAt d y with
          | some (v, d') => some (.nx ((ρ1.set i (some (1, d'))).set j (some (0, v))))
          | none => none
        | _ => none
      | none => none
    | _ => none) := fun F0 H0 F H σ ρ fp out D si hf hD => by
  dsimp only at hf
  split at hf
  · rename_i kvs0 h0
    split at hf
    · rename_i k y ρ1 he
      split at hf
      · rename_i d hx'
        split at hf
        · rename_i v d' hp
          cases hf
          refine ws_of (ps_set hN hj hx pe_W rfl hfn) (pop_core nm hk m si h0 he hx' hp fun vv F' H' fp' s' dv => ?_)
          obtain ⟨fp2, s2⟩ := s'.put0 j dv
          exact hD _ _ _ _ s2
        · cases hf
      · cases hf
    · cases hf
  · cases hf
/-! ### a, b = e -/
theorem st_unp {es : List Expr} {kk : Nat} {is : List Nat} (h : BE X.K (WE X e) (evS C G E)) (hg : PG X (.Tuple es kk p2) (gOf X.K (.many is))) (hs : ∀ l, swapsWith e (some (.Tuple es kk p2)) l X.env = pure false) (hw : swappedStores [.Tuple es kk p2] e X.env = pure none) {spos : Pos} :
    StOk X.K (WS X (.Assign [.Tuple es kk p2] e spos)) (fun ρ => match evS C G E ρ with
    | some (_, .tup ds, ρ') => if ds.length = is.length then some (.nx (asgEs is ds ρ')) else none
    | _ => none) := fun F0 H0 F H σ ρ fp out D si hf hD => by
  dsimp only at hf
  split at hf
  · rename_i k ds ρ' he
    obtain ⟨hl, e'⟩ := if_some hf
    cases e'
    refine ws_of (ps_asg pe_W hg (show swapsWithSole [.Tuple es kk p2] e spos.line X.env = pure false from hs spos.line) hw rfl) (h F0 H0 F H σ ρ fp k _ ρ' si he _ fun v F' H' fp' fq s' o nin fr => ?_)
    obtain ⟨F2, ef, s2, dv⟩ := s'.fix o nin fr
    exact asgE_ok s2 dv (by show (if ds.length = is.length then some (asgEs is ds ρ') else none) = _; rw [if_pos hl]) fun σ' fp3 s3 => hD _ _ _ _ s3
  · cases hf
theorem st_par {j : Nat} {x y : Str} {px py pt pt2 : Pos} {kt k2 : Nat} (ha : BE X.K (WE X a) (evS C G A)) (hb : BE X.K (WE X b) (evS C G B)) (na : Pl X a) (nb : Pl X b) (hc : X.calm = true) (hN : X.N.Nodup) (hi : X.N[i]? = some x) (hj : X.N[j]? = some y) (hij : i ≠ j)
    (hx : X.env.scope.names.lookup x = some .local) (hy : X.env.scope.names.lookup y = some .local)
    (hw : swappedStores [.Tuple [.Name x px, .Name y py] kt pt] (.Tuple [a, b] k2 pt2) X.env = pure (some [x, y])) {spos : Pos} :
    StOk X.K (WS X (.Assign [.Tuple [.Name x px, .Name y py] kt pt] (.Tuple [a, b] k2 pt2) spos)) (fun ρ => match evS C G A ρ with
    | some (_, d, ρ1) => match evS C G B ρ1 with
      | some (_, e, ρ2) => some (.nx ((ρ2.set i (some (0, d))).set j (some (0, e))))
      | none => none
    | none => none) := fun F0 H0 F H σ ρ fp out D si hf hD => by
  dsimp only at hf
  split at hf
  · rename_i k d ρ1 he
    split at hf
    · rename_i k' d' ρ2 he'
      cases hf
      refine ws_of (ps_par hc hN hi hj hij hx hy (pa_cons pe_W (pa_cons pe_W pa_nil (nb _)) (na _)) hw rfl) ?_
      refine ha F0 H0 F H σ ρ fp k d ρ1 si he _ fun v F1 H1 fp1 fq s1 o nin fr => ?_
      obtain ⟨F2, ef, s2, dv⟩ := s1.fix o nin fr
      refine hb F2 (mix F2 H0) F2 H1 σ ρ1 fp1 k' d' ρ2 s2.rebase he' _ fun u F3 H3 fp3 fq3 s3 o3 nin3 fr3 => ?_
      obtain ⟨F4, ef4, s4, du⟩ := s3.fix o3 nin3 fr3
      obtain ⟨fp5, s5⟩ := (s4.back s2.st).put0 i (dv.mono s4.st.ff)
      obtain ⟨fp6, s6⟩ := s5.put0 j du
      exact ⟨v, u, rfl, hD _ _ _ _ s6⟩
    · cases hf
  · cases hf
end
end PV

set_option Elab.async false
set_option linter.all false
set_option maxRecDepth 100000
set_option maxHeartbeats 2000000
/-! PV, part Sb: more statements. -/
namespace PV
open PySem PySem.Spec PyProof.Rows L2 LamX NdefX
variable [Tabl]
section
variable {K : PySem.W.Frag} {F0 H0 F H F' H' : Hp} {σ : L2.St} {ρ ρ' : Env} {fp fp' fq : List Addr}
theorem SI.loose {p : Addr} {o : HO} (si : SI K F0 H0 F H σ ρ fp) (hp : H p = none) : SI K F0 H0 F (upd H p o) σ ρ fp := ⟨si.st.trans (.loose si.st.fh hp), si.rel.stp (.loose si.st.fh hp), si.fr⟩
/-- the base, with the objects at fq held -/
def hold (F H0 H : Hp) (fq : List Addr) : Hp := fun a => if a ∈ fq then H a else mix F H0 a
theorem hold_in {a : Addr} (h : a ∈ fq) : hold F H0 H fq a = H a := if_pos h
theorem hold_out {a : Addr} (h : a ∉ fq) : hold F H0 H fq a = mix F H0 a := if_neg h
theorem SI.held (si : SI K F0 H0 F H σ ρ fp) (nin : ∀ a ∈ fq, a ∉ fp) : SI K F (hold F H0 H fq) F H σ ρ fp := by
  have b := si.rebase
  refine ⟨⟨.refl _, ⟨fun a o e n => ?_, fun a ps e => ?_⟩, si.st.fh, fun a h => .inl h⟩, si.rel, fun a ha => ?_⟩
  · by_cases z : a ∈ fq
    · rw [hold_in z] at e; exact e
    · rw [hold_out z] at e; exact b.st.hh.get e n
  · by_cases z : a ∈ fq
    · rw [hold_in z] at e; exact ⟨ps, e⟩
    · rw [hold_out z] at e; exact b.st.hh.tb a ps e
  · rw [hold_out fun z => nin a z ha]; exact b.fr a ha
theorem hold_fr {a : Addr} (hin : ∀ a ∈ fq, H a ≠ none) (h : hold F H0 H fq a = none) : H0 a = none := by
  by_cases z : a ∈ fq
  · rw [hold_in z] at h; exact absurd h (hin a z)
  · rw [hold_out z] at h; exact fr_back h
theorem Stp.unheld (st : Stp F0 H0 F H) (fr : ∀ a ∈ fq, H0 a = none) (hin : ∀ a ∈ fq, H a ≠ none) (s2 : Stp F (hold F H0 H fq) F' H') : Stp F0 H0 F' H' := by
  have ex : Ex (mix F H0) (hold F H0 H fq) ∨ True := .inr True.intro
  have s3 : Stp F (mix F H0) F' H' := ⟨s2.ff, ⟨fun a o e n => ?_, fun a ps e => ?_⟩, s2.fh, fun a h => ?_⟩
  · exact st.back s3
  · by_cases z : a ∈ fq
    · have h0 := fr a z
      cases q : F a with
      | some u =>
        rw [mix_l q] at e; cases e
        exact s2.fh.get (s2.ff.get q n) n
      | none => rw [mix_r q, h0] at e; cases e
    · exact s2.hh.get (by rw [hold_out z]; exact e) n
  · by_cases z : a ∈ fq
    · have h0 := fr a z
      cases q : F a with
      | some u =>
        rw [mix_l q] at e; cases e
        obtain ⟨ps', q'⟩ := s2.ff.tb a ps q
        exact s2.fh.tb a ps' q'
      | none => rw [mix_r q, h0] at e; cases e
    · exact s2.hh.tb a ps (by rw [hold_out z]; exact e)
  · rcases s2.nw a h with z | z
    · exact .inl z
    · by_cases w : a ∈ fq
      · rw [hold_in w] at z; exact absurd z (hin a w)
      · rw [hold_out w] at z; exact .inr z
theorem nodK_iff : ∀ {l : List Key}, nodK l = true → l.Nodup
  | [], _ => .nil
  | k :: r, h => by
    unfold nodK at h
    rw [Bool.and_eq_true] at h
    refine List.nodup_cons.mpr ⟨fun z => ?_, nodK_iff h.2⟩
    rw [memK_iff.mpr z] at h
    cases h.1
/-- a child of an owned dict is written -/
theorem owns_upd {κ : Type} [DecidableEq κ] {k : Nat} {key : κ} {d : D} : ∀ {ws : List (κ × V)} {kvs : List (κ × D)} {fp : List Addr}, ws.map (·.1) = kvs.map (·.1) → (kvs.map (·.1)).Nodup → Owns K F H k (ws.map (·.2)) (kvs.map (·.2)) fp → valD kvs key = some d →
    ∃ u fq, valV ws key = some u ∧ Own K F H k u d fq ∧ (∀ a ∈ fq, a ∈ fp) ∧ ∀ H' d', Own K F H' k u d' fq → (∀ a ∈ fp, a ∉ fq → H' a = H a) → Owns K F H' k (ws.map (·.2)) ((kvs.map fun kv => if kv.1 = key then (kv.1, d') else kv).map (·.2)) fp
  | [], [], _, _, _, _, h => by cases h
  | [], _ :: _, _, e, _, _, _ => by simp at e
  | _ :: _, [], _, e, _, _, _ => by simp at e
  | (a, v) :: r, (b, e0) :: s, fp, e, nd, o, h => by
    simp only [List.map_cons, List.cons.injEq] at e
    obtain ⟨rfl, e2⟩ := e
    rw [List.map_cons, List.nodup_cons] at nd
    cases o with
    | cons h1 h2 h3 =>
      rename_i f1 f2
      by_cases q : a = key
      · subst q
        have hd : e0 = d := by
          have : valD ((a, e0) :: s) a = some e0 := by simp [valD]
          rw [this] at h; exact Option.some.inj h
        subst hd
        refine ⟨v, f1, by simp [valV], h1, fun x hx => List.mem_append_left _ hx, fun H' d' ow keep => ?_⟩
        simp only [List.map_cons, if_true]
        rw [map_other nd.1]
        refine .cons ow (h2.keep (.refl _) fun x hx => ⟨keep x (List.mem_append_right _ hx) fun z => h3 x z hx, (h2.loose x hx).1⟩) h3
      · have q1 : valD ((a, e0) :: s) key = valD s key := by simp [valD, List.find?_cons, q]
        have q2 : valV ((a, v) :: r) key = valV r key := by simp [valV, List.find?_cons, q]
        rw [q1] at h
        obtain ⟨u, fq, g1, g2, g3, g4⟩ := owns_upd e2 nd.2 h2 h
        refine ⟨u, fq, by rw [q2]; exact g1, g2, fun x hx => List.mem_append_right _ (g3 x hx), fun H' d' ow keep => ?_⟩
        simp only [List.map_cons, if_neg q]
        exact .cons (h1.keep (.refl _) fun x hx => ⟨keep x (List.mem_append_left _ hx) fun z => h3 x hx (g3 x z), (h1.loose x hx).1⟩) (g4 H' d' ow fun x hx hn => keep x (List.mem_append_right _ hx) hn) h3
end
section
variable {X : Cx} {C : Fn → List D → List Str → List D → Option (Nat × D)} {G : Glo} {e a b : Expr} {E A B : Exp} {pos apos : Pos} {n : Str} {p2 : Pos} {i : Nat}
theorem own2_dic_inv {K : PySem.W.Frag} {F H : Hp} {v : V} {ds : List (Key × D)} {fq : List Addr} (h : Own K F H 2 v (.dic ds) fq) : ∃ p kvs fp, v = .ref p ∧ fq = p :: fp ∧ H p = some (.dK kvs) ∧ F p = none ∧ kvs.map (·.1) = ds.map (·.1) ∧ Owns K F H 1 (kvs.map (·.2)) (ds.map (·.2)) fp ∧ p ∉ fp ∧ ds.length ≤ cap := by
  cases h with
  | sc i _ => simp [imm] at i
  | dic h1 h2 e h3 h4 h5 => exact ⟨_, _, _, rfl, rfl, h1, h2, e, h3, h4, h5⟩
/-- an expression alone -/
theorem st_exp {f : Str} {args : List Expr} {kws : List Keyword} {p1 : Pos} {spos : Pos} (h : BE X.K (WE X (.Call (.Name f p1) args kws pos)) (evS C G E)) : StOk X.K (WS X (.Expr (.Call (.Name f p1) args kws pos) spos)) (fun ρ => match evS C G E ρ with | some (_, _, ρ') => some (.nx ρ') | none => none) := fun F0 H0 F H σ ρ fp out D si hf hD => by
  dsimp only at hf
  split at hf
  · rename_i k d ρ' he
    cases hf
    exact ws_of (ps_expr pe_W rfl) (h F0 H0 F H σ ρ fp k d ρ' si he _ fun v F' H' fp' fq s' o nin fr => hD _ _ _ _ s')
  · cases hf
/-- a, *b = e -/
theorem st_star {j : Nat} {x y : Str} {px py ps : Pos} {kk : Nat} (hij : i ≠ j) (h : BE X.K (WE X e) (evS C G E)) (hg : PG X (.Tuple [.Name x px, .Starred (.Name y py) ps] kk p2) (gStar X.K i j)) (hs : ∀ l, swapsWith e (some (.Tuple [.Name x px, .Starred (.Name y py) ps] kk p2)) l X.env = pure false) (hw : swappedStores [.Tuple [.Name x px, .Starred (.Name y py) ps] kk p2] e X.env = pure none) {spos : Pos} :
    StOk X.K (WS X (.Assign [.Tuple [.Name x px, .Starred (.Name y py) ps] kk p2] e spos)) (fun ρ => match evS C G E ρ with
    | some (_, .tup (d :: ds), ρ') => some (.nx ((ρ'.set i (some (0, d))).set j (some (1, .lst ds))))
    | _ => none) := fun F0 H0 F H σ ρ fp out D si hf hD => by
  dsimp only at hf
  split at hf
  · rename_i k d ds ρ' he
    cases hf
    refine ws_of (ps_asg pe_W hg (show swapsWithSole [.Tuple [.Name x px, .Starred (.Name y py) ps] kk p2] e spos.line X.env = pure false from hs spos.line) hw rfl) (h F0 H0 F H σ ρ fp k _ ρ' si he _ fun v F' H' fp' fq s' o nin fr => ?_)
    obtain ⟨F2, ef, s2, dv⟩ := s'.fix o nin fr
    cases dv with
    | tup h1 h2 h3 =>
      cases h2 with
      | cons d1 d2 =>
        rename_i v0 vs
        refine ⟨_, _, _, rfl, .of (s2.st.fh.get h1), fun p hp => ?_⟩
        have hl : ds.length ≤ cap := by rw [List.length_cons] at h3; omega
        have fp_ : F2 p = none := s2.st.fh.free hp
        have c1 : ∀ b ∈ [p], b ∉ fp' := fun b hb z => by
          have e' : b = p := by simpa using hb
          subst e'
          obtain ⟨_, o', ho', _⟩ := s2.rel.loose b z
          rw [hp] at ho'; cases ho'
        have c2 : ∀ b ∈ [p], H0 b = none := fun b hb => by
          have e' : b = p := by simpa using hb
          rw [e']; exact s2.st.hh.free hp
        obtain ⟨fp4, s4⟩ := (s2.loose (o := .lst vs) hp).put (k := 1) (d := .lst ds) (fq := [p]) j (.lst upd_same fp_ (owns_zero d2) (by simp) hl) c1 c2
        obtain ⟨fp5, s5⟩ := s4.put0 i d1
        rw [List.set_comm _ _ hij.symm, List.set_comm _ _ hij.symm] at s5
        exact hD _ _ _ _ s5
  · cases hf
/-- a, b = e, a tuple or a list -/
theorem st_unpL {es : List Expr} {kk : Nat} {is : List Nat} (h : BE X.K (WE X e) (evS C G E)) (hg : PG X (.Tuple es kk p2) (gOf X.K (.many is))) (hgl : PG X (.Tuple es kk p2) (gUnl X.K is.length (gMany X.K is))) (hs : ∀ l, swapsWith e (some (.Tuple es kk p2)) l X.env = pure false) (hw : swappedStores [.Tuple es kk p2] e X.env = pure none) {spos : Pos} :
    StOk X.K (WS X (.Assign [.Tuple es kk p2] e spos)) (fun ρ => match evS C G E ρ with
    | some (_, .tup ds, ρ') => if ds.length = is.length then some (.nx (asgEs is ds ρ')) else none
    | some (_, .lst ds, ρ') => if ds.length = is.length then some (.nx (asgEs is ds ρ')) else none
    | _ => none) := fun F0 H0 F H σ ρ fp out D si hf hD => by
  dsimp only at hf
  split at hf
  · rename_i k ds ρ' he
    exact st_unp h hg hs hw F0 H0 F H σ ρ fp out D si (by dsimp only; rw [he]; exact hf) hD
  · rename_i k ds ρ' he
    obtain ⟨hl, e'⟩ := if_some hf
    cases e'
    refine ws_of (ps_asg pe_W hgl (show swapsWithSole [.Tuple es kk p2] e spos.line X.env = pure false from hs spos.line) hw rfl) (h F0 H0 F H σ ρ fp k _ ρ' si he _ fun v F' H' fp' fq s' o nin fr => ?_)
    obtain ⟨F2, ef, s2, dv⟩ := s'.fix o nin fr
    cases dv with
    | lst h1 h2 h3 => exact ⟨_, _, rfl, .of (s2.st.fh.get h1), by rw [h2.length]; exact hl, s2.puts h2 hl fun σ' fp3 s3 => hD _ _ _ _ s3⟩
  · cases hf
/-- x[k] = a new list, x a dict of lists -/
theorem st_seto (hu : X.A.units + 64 < cLine) (nm : Nm X n i) (h : BE X.K (WE X e) (evS C G E)) (hk : BE X.K (WE X a) (evS C G A)) (hs : ∀ t l, swapsWith e (some (.Subscript (.Name n p2) a t)) l X.env = pure false) {spos : Pos} :
    StOk X.K (WS X (.Assign [.Subscript (.Name n p2) a pos] e spos)) (fun ρ => match evS C G E ρ with
    | some (1, v, ρ1) => match evS C G A ρ1 with
      | some (_, y, ρ2) => match ρ2[i]? with
        | some (some (2, d)) => match putO d y v with
          | some d' => some (.nx (ρ2.set i (some (2, d'))))
          | none => none
        | _ => none
      | none => none
    | _ => none) := fun F0 H0 F H σ ρ fp out D si hf hD => by
  dsimp only at hf
  split at hf
  · rename_i v ρ1 he
    split at hf
    · rename_i k2 y ρ2 hy
      split at hf
      · rename_i d hx
        split at hf
        · rename_i d' hput
          cases hf
          cases d with
          | dic kvs =>
            cases v with
            | lst ys =>
             simp only [putO] at hput
             split at hput
             · rename_i key hkey
               obtain ⟨⟨hnd, hcl⟩, e'⟩ := if_some hput
               cases e'
               have nd := nodK_iff hnd
               obtain ⟨z1, hz1⟩ := evS_tell hy hx
               obtain ⟨z0, hz0⟩ := evS_tell he hz1
               obtain ⟨u, _, hu0, _⟩ := si.rel.get hz0
               refine ws_of (ps_dput (by omega) nm.pe pe_W pe_W (hs _ _)) ?_
               show WE X e σ H fun vv H1 => ∃ u, σ[i]? = some (some u) ∧ WE X a σ H1 fun yv H2 => ∃ a H4, u = .ref a ∧ DPut H2 a yv vv H4 ∧ D.nx σ H4
               refine h F0 H0 F H σ ρ fp 1 _ ρ1 si he _ fun vv F1 H1 fp1 fq s1 o nin fr => ⟨u, hu0, ?_⟩
               have hin : ∀ b ∈ fq, H1 b ≠ none := fun b hb => by
                 obtain ⟨_, o', ho', _⟩ := o.loose b hb
                 rw [ho']; exact fun z => nomatch z
               refine hk F1 (hold F1 H0 H1 fq) F1 H1 σ ρ1 fp1 k2 y ρ2 (s1.held nin) hy _ fun yv F2 H2 fp2 fq2 s2 o2 nin2 fr2 => ?_
               obtain ⟨F3, ef3, s3, dy⟩ := s2.fix o2 nin2 fr2
               have ky := key_dat dy hkey
               subst ky
               have keepq : ∀ b ∈ fq, H2 b = H1 b ∧ F3 b = none := fun b hb => by
                 obtain ⟨f1, o', ho', _, _, nt⟩ := o.loose b hb
                 refine ⟨by rw [ho']; exact s3.st.hh.get (by rw [hold_in hb]; exact ho') nt, ?_⟩
                 exact s3.st.lse f1 (by rw [hold_in hb, ho']; exact fun z => nomatch z)
               have o3 : Own X.K F3 H2 1 vv (.lst ys) fq := o.keep s3.st.ff keepq
               have st3 : Stp F0 H0 F3 H2 := s1.st.unheld fr hin s3.st
               have fr3 : ∀ b ∈ fp2, H0 b = none := fun b hb => hold_fr hin (s3.fr b hb)
               have njn : ∀ b ∈ fq, b ∉ fp2 := fun b hb z => by
                 have := s3.fr b z
                 rw [hold_in hb] at this
                 exact hin b hb this
               obtain ⟨v1, fq1, hσ1, o1, in1⟩ := s3.rel.get hx
               rw [hu0] at hσ1
               cases hσ1
               obtain ⟨p, ws, fpc, rfl, rfl, hp, hF, hkk, hown, hnp, hlen⟩ := own2_dic_inv o1
               have hwl : ws.length = kvs.length := by simpa using congrArg List.length hkk
               refine ⟨p, _, rfl, .k (k := key) hp (cap_lt (by omega)), ?_⟩
               have hpfp : p ∈ fp2 := in1 p List.mem_cons_self
               have pnq : p ∉ fq := fun z => njn p z hpfp
               obtain ⟨fp', q1, q2, q3, q4⟩ := put_own (key := key) hkk nd hown o3 (fun b hb z => njn b hb (in1 b (List.mem_cons_of_mem _ z)))
               have pn' : p ∉ fp' := fun z => (q4 p z).elim hnp pnq
               obtain ⟨fpx, r1, r2⟩ := s3.rel.upd_slotN (fn := fq) (F' := F3) (H' := upd H2 p (.dK (putK ws key vv))) (k' := 2) (d' := .dic (putD kvs key (.lst ys))) hx (.refl _) njn fun v' fq' hv' ho' hin' => by
                 rw [hu0] at hv'; cases hv'
                 obtain ⟨p', ws', fpc', e1, rfl, hp', _, hkk', hown', hnp', _⟩ := own2_dic_inv ho'
                 cases e1
                 rw [hp] at hp'; cases hp'
                 obtain ⟨fp'', t1, t2, t3, t4⟩ := put_own (key := key) hkk' nd hown' o3 (fun b hb z => njn b hb (hin' b (List.mem_cons_of_mem _ z)))
                 have pn'' : p ∉ fp'' := fun z => (t4 p z).elim hnp' pnq
                 refine ⟨p :: fp'', .dic upd_same hF t1 (t3.keep (.refl _) fun b hb => ⟨upd_ne fun z => pn'' (by rw [← z]; exact hb), (t3.loose b hb).1⟩) pn'' (Nat.le_trans (putD_le _ _ _) hcl), fun b hb => ?_, fun b hb hn => ⟨upd_ne fun z => hn (by rw [z]; exact List.mem_cons_self), (s3.rel.loose b hb).1⟩⟩
                 rcases List.mem_cons.mp hb with rfl | hb
                 · exact .inl List.mem_cons_self
                 · exact (t4 b hb).imp (fun w => List.mem_cons_of_mem _ w) id
               exact hD _ _ _ _ ⟨st3.updD hF (fr3 p hpfp) hp, r1, fun b hb => (r2 b hb).elim (fr3 b) (fr b)⟩
             · cases hput
            | _ => cases hput
          | _ => cases hput
        · cases hf
      · cases hf
    · cases hf
  · cases hf
/-- x[k][j] = e, x a dict of lists -/
theorem st_upd2 {j : Int} {kc : Nat} {p3 p4 : Pos} (hu : X.A.units + 64 < cLine) (nm : Nm X n i) (h : BE X.K (WE X e) (evS C G E)) (hk : BE X.K (WE X a) (evS C G A)) (hns : NoSl a) (hs : ∀ t l o, swapsWith e (some (.Subscript o (.Constant (.int j) kc p4) t)) l X.env = pure false) (hw : ∀ t o, swappedStores [.Subscript o (.Constant (.int j) kc p4) t] e X.env = pure none) {spos : Pos} :
    StOk X.K (WS X (.Assign [.Subscript (.Subscript (.Name n p2) a p3) (.Constant (.int j) kc p4) pos] e spos)) (fun ρ => match evS C G E ρ with
    | some (_, v, ρ1) => match evS C G A ρ1 with
      | some (_, y, ρ2) => match ρ2[i]? with
        | some (some (2, d)) => match put2 d y j v with
          | some d' => some (.nx (ρ2.set i (some (2, d'))))
          | none => none
        | _ => none
      | none => none
    | none => none) := fun F0 H0 F H σ ρ fp out D si hf hD => by
  dsimp only at hf
  split at hf
  · rename_i k v ρ1 he
    split at hf
    · rename_i k2 y ρ2 hy
      split at hf
      · rename_i d hx
        split at hf
        · rename_i d' hput
          cases hf
          cases d with
          | dic kvs =>
            simp only [put2] at hput
            split at hput
            · rename_i key hkey
              split at hput
              · rename_i hnd
                split at hput
                · rename_i xs hval
                  split at hput
                  · rename_i ix hix
                    cases hput
                    have nd := nodK_iff hnd
                    obtain ⟨z1, hz1⟩ := evS_tell hy hx
                    obtain ⟨z0, hz0⟩ := evS_tell he hz1
                    obtain ⟨u, _, hu0, _⟩ := si.rel.get hz0
                    refine ws_of (ps_asg pe_W (pg_sub (pe_dget (by omega) nm.pe pe_W hns) pe_int set_list (fun v => rfl)) (show swapsWithSole [.Subscript (.Subscript (.Name n p2) a p3) (.Constant (.int j) kc p4) pos] e spos.line X.env = pure false from hs pos spos.line (.Subscript (.Name n p2) a p3)) (hw _ _) rfl) ?_
                    show WE X e σ H fun vv H1 => ∃ u, σ[i]? = some (some u) ∧ WE X a σ H1 fun yv H2 => ∃ a0 w, u = .ref a0 ∧ DGet H2 a0 yv (some w) ∧ rSetL w (.int j) vv H2 fun H3 => D.nx σ H3
                    refine h F0 H0 F H σ ρ fp k v ρ1 si he _ fun vv F1 H1 fp1 fq s1 o nin fr => ⟨u, hu0, ?_⟩
                    obtain ⟨Fa, efa, sa, dv⟩ := s1.fix o nin fr
                    refine hk Fa (mix Fa H0) Fa H1 σ ρ1 fp1 k2 y ρ2 sa.rebase hy _ fun yv F2 H2 fp2 fq2 s2 o2 nin2 fr2 => ?_
                    obtain ⟨F3, ef3, s3, dy⟩ := s2.fix o2 nin2 fr2
                    have ky := key_dat dy hkey
                    subst ky
                    have sb : SI X.K F0 H0 F3 H2 σ ρ2 fp2 := s3.back sa.st
                    have dv3 : Dat X.K F3 vv v := dv.mono s3.st.ff
                    obtain ⟨v1, fq1, hσ1, o1, in1⟩ := sb.rel.get hx
                    rw [hu0] at hσ1
                    cases hσ1
                    obtain ⟨p, ws, fpc, rfl, rfl, hp, hF, hkk, hown, hnp, hlen⟩ := own2_dic_inv o1
                    obtain ⟨w, fqc, g1, g2, g3, g4⟩ := owns_upd hkk nd hown hval
                    obtain ⟨a1, vs1, rfl, rfl, hH1, hF1, hd1, hl1⟩ := own_lst_inv g2
                    refine ⟨p, _, rfl, by rw [← g1]; exact .inl ⟨ws, key, .of hp, rfl, rfl⟩, a1, vs1, j, ix, rfl, rfl, hH1, by rw [hd1.length]; exact hix, ?_⟩
                    have a1in : a1 ∈ fpc := g3 a1 (by simp)
                    have a1fp : a1 ∈ fp2 := in1 a1 (List.mem_cons_of_mem _ a1in)
                    have pne : p ≠ a1 := fun z => hnp (by rw [z]; exact a1in)
                    have eput : putD kvs key (.lst (xs.set ix v)) = kvs.map fun kv => if kv.1 = key then (kv.1, .lst (xs.set ix v)) else kv := by
                      unfold putD
                      rw [if_pos]
                      unfold valD at hval
                      obtain ⟨q, hq, _⟩ := Option.map_eq_some_iff.mp hval
                      have hq2 := List.find?_some (p := fun kv : Key × PV.D => decide (kv.1 = key)) hq
                      exact List.any_eq_true.mpr ⟨q, List.mem_of_find?_eq_some hq, hq2⟩
                    obtain ⟨fpx, r1, r2⟩ := sb.rel.upd_slot (F' := F3) (H' := upd H2 a1 (.lst (vs1.set ix vv))) (k' := 2) (d' := .dic (putD kvs key (.lst (xs.set ix v)))) hx (.refl _) fun v'' fq' hv' ho' hin' => by
                      rw [hu0] at hv'; cases hv'
                      obtain ⟨p', ws', fpc', e1, rfl, hp', _, hkk', hown', hnp', _⟩ := own2_dic_inv ho'
                      cases e1
                      rw [hp] at hp'; cases hp'
                      obtain ⟨w', fqc', t1, t2, t3, t4⟩ := owns_upd hkk' nd hown' hval
                      rw [g1] at t1; cases t1
                      obtain ⟨a1', vs1', e2, rfl, hH1', _, hd1', _⟩ := own_lst_inv t2
                      cases e2
                      have a1in' : a1 ∈ fpc' := t3 a1 (by simp)
                      have pne' : p ≠ a1 := fun z => hnp' (by rw [z]; exact a1in')
                      refine ⟨p :: fpc', .dic (by rw [upd_ne pne']; exact hp) hF ?_ ?_ hnp' (Nat.le_trans (Nat.le_of_eq ?_) hlen), fun b hb => hb, fun b hb hn => ⟨upd_ne fun z => hn (by rw [z]; exact List.mem_cons_of_mem _ a1in'), (sb.rel.loose b hb).1⟩⟩
                      · rw [eput, hkk', List.map_map]
                        congr 1
                        funext kv
                        simp only [Function.comp]
                        split <;> rfl
                      · rw [eput]
                        exact t4 _ _ (.lst upd_same hF1 (owns_zero (hd1.set dv3 ix)) (by simp) (by rw [List.length_set]; exact hl1)) fun b hb hn => upd_ne fun z => hn (by simp [z])
                      · rw [eput, List.length_map]
                    exact hD _ _ _ _ ⟨sb.st.updD hF1 (sb.fr a1 a1fp) hH1, r1, fun b hb => sb.fr b (r2 b hb)⟩
                  · cases hput
                · cases hput
              · cases hput
            · cases hput
          | _ => cases hput
        · cases hf
      · cases hf
    · cases hf
  · cases hf
end
section
variable {X : Cx} {G : Glo} {e a : Expr} {pos apos : Pos} {n : Str} {p2 : Pos} {i : Nat}
/-- d.clear() -/
theorem st_clr (nm : Nm X n i) (hline : (apos.endLine == pos.line) = true) {spos : Pos} : StOk X.K (WS X (.Expr (.Call (.Attribute (.Name n p2) "clear" apos) [] [] pos) spos)) (fun ρ => match ρ[i]? with
    | some (some (1, .dic _)) => some (.nx (ρ.set i (some (1, .dic []))))
    | _ => none) := fun F0 H0 F H σ ρ fp out D si hf hD => by
  dsimp only at hf
  split at hf
  · rename_i kvs hx
    cases hf
    obtain ⟨v0, fq0, hσ, o0, in0⟩ := si.rel.get hx
    obtain ⟨l, ws, rfl, rfl, hH, hF, hkk, hd, hlen⟩ := own_dic_inv o0
    refine ws_of (ps_expr (pe_dclear nm.pe rfl hline) rfl) ⟨_, hσ, .inr (.inr (.inl ⟨rfl, .inl ⟨_, hH⟩⟩)), l, ws, rfl, rfl, hH, ?_⟩
    obtain ⟨fp3, s3⟩ := si.write (o := .dK []) (F' := F) (d' := .dic []) hx hσ (in0 l (by simp)) (fun fq' ho => by
      obtain ⟨l2, _, e2, rfl, _⟩ := own_dic_inv ho
      cases e2; rfl) (.dic (kvs := []) upd_same hF rfl .nil (by simp) (by decide))
    exact hD _ _ _ _ s3
  · cases hf
theorem if_opt2 {α : Type} {c : Prop} [Decidable c] {a : Option α} {b : α} (h : (if c then a else none) = some b) : c ∧ a = some b := by
  split at h
  · exact ⟨by assumption, h⟩
  · cases h
theorem look_val {fs : List (Str × V)} {f : Str} : fs.lookup f = valV fs f := by
  induction fs with
  | nil => rfl
  | cons p r ih =>
    obtain ⟨a, b⟩ := p
    rw [List.lookup_cons]
    by_cases h : f = a
    · subst h
      simp [valV]
    · have q : valV ((a, b) :: r) f = valV r f := by simp [valV, List.find?_cons, Ne.symm h]
      rw [q, ← ih]
      have : (f == a) = false := by simpa using h
      rw [this]
theorem own2_ins_inv {K : PySem.W.Frag} {F H : Hp} {v : V} {c : Str} {ds : List (Str × D)} {fq : List Addr} (h : Own K F H 2 v (.ins c ds) fq) : ∃ x C dx fs fp, v = .ref x ∧ fq = x :: dx :: fp ∧ H x = some (.ins C dx fs) ∧ F x = none ∧ H dx = some (.own x) ∧ F dx = none ∧ PySem.W.nsIn K mainGlobals c = some (some (.ref C)) ∧ fs.map (·.1) = ds.map (·.1) ∧ Owns K F H 1 (fs.map (·.2)) (ds.map (·.2)) fp ∧ x ∉ fp ∧ dx ∉ fp := by
  cases h with
  | sc i _ => simp [imm] at i
  | ins h1 h2 h3 h4 h5 h6 h7 h8 h9 => exact ⟨_, _, _, _, _, rfl, rfl, h1, h2, h3, h4, h5, h6, h7, h8, h9⟩
/-- x.f['k'] = v, x an own instance -/
theorem st_setf {f key : Str} {v : Int} {kc vc : Nat} {pa pk pv : Pos} (hu : X.A.units + 64 < cLine) (nm : Nm X n i) (hfl : ∀ c, G.fld c f = true → ∀ C, PySem.W.nsIn X.K mainGlobals c = some (some (.ref C)) → Cls X.K C ∧ NoAttr X.K C f) {spos : Pos} :
    StOk X.K (WS X (.Assign [.Subscript (.Attribute (.Name n p2) f pa) (.Constant (.str key) kc pk) pos] (.Constant (.int v) vc pv) spos)) (fun ρ => match ρ[i]? with
    | some (some (2, d)) => match putF2 G d f key v with
      | some d' => some (.nx (ρ.set i (some (2, d'))))
      | none => none
    | _ => none) := fun F0 H0 F H σ ρ fp out D si hf hD => by
  dsimp only at hf
  split at hf
  · rename_i d hx
    split at hf
    · rename_i d' hput
      cases hf
      cases d with
      | ins c ds =>
        simp only [putF2] at hput
        obtain ⟨⟨hg, hnd⟩, hput⟩ := if_opt2 hput
        have hnd := of_decide_eq_true hnd
        split at hput
        · rename_i kvs hval
          obtain ⟨hcl, e'⟩ := if_some hput
          cases e'
          obtain ⟨v1, fq1, hσ1, o1, in1⟩ := si.rel.get hx
          obtain ⟨x, C, dx, fs, fpc, rfl, rfl, hHx, hFx, hHd, hFd, hns, hks, how, nx, nd⟩ := own2_ins_inv o1
          obtain ⟨u, fqu, g1, g2, g3, g4⟩ := owns_upd hks hnd how hval
          obtain ⟨p, ws, rfl, rfl, hp, hF, hkk, hdd, hlen⟩ := own_dic_inv g2
          obtain ⟨cls, na⟩ := hfl c hg C hns
          have hwl : ws.length = kvs.length := by simpa using congrArg List.length hkk
          refine ws_of (ps_dput (by omega) (pe_fld nm.pe rfl) pe_str pe_int rfl) ?_
          refine ⟨_, hσ1, x, C, dx, fs, .ref p, rfl, hHx, cls, na, by rw [look_val]; exact g1, p, _, rfl, .k (k := .inr key) hp (cap_lt (by omega)), ?_⟩
          obtain ⟨q1, q2⟩ := put_dat (k := (.inr key : Key)) hkk hdd (.int v)
          have hpf : p ∈ fpc := g3 p (by simp)
          have hpfp : p ∈ fp := in1 p (List.mem_cons_of_mem _ (List.mem_cons_of_mem _ hpf))
          have px : p ≠ x := fun z => nx (z ▸ hpf)
          have pd : p ≠ dx := fun z => nd (z ▸ hpf)
          obtain ⟨fpx, r1, r2⟩ := si.rel.upd_slot (F' := F) (H' := upd H p (.dK (putK ws (.inr key) (.int v)))) (k' := 2) (d' := .ins c (ds.map fun q => if q.1 = f then (q.1, .dic (putD kvs (.inr key) (.int v))) else q)) hx (.refl _) fun v' fq' hv' ho' hin' => by
            rw [hσ1] at hv'; cases hv'
            obtain ⟨x', C', dx', fs', fpc', e1, rfl, hHx', _, hHd', _, hns', hks', how', nx', nd'⟩ := own2_ins_inv ho'
            cases e1
            rw [hHx] at hHx'; cases hHx'
            obtain ⟨u', fqu', g1', g2', g3', g4'⟩ := owns_upd hks' hnd how' hval
            rw [g1] at g1'; cases g1'
            obtain ⟨p', ws', e2, rfl, hp', _, _, _, _⟩ := own_dic_inv g2'
            cases e2
            have hpf' : p ∈ fpc' := g3' p (by simp)
            have nw := g4' (upd H p (.dK (putK ws (.inr key) (.int v)))) (.dic (putD kvs (.inr key) (.int v))) (.dic upd_same hF q1 (owns_zero q2) (by simp) (Nat.le_trans (putD_le _ _ _) hcl)) (fun b _ hb => upd_ne fun z => hb (by simp [z]))
            have px' : p ≠ x := fun z => nx' (z ▸ hpf')
            have pd' : p ≠ dx := fun z => nd' (z ▸ hpf')
            refine ⟨x :: dx :: fpc', .ins (by rw [upd_ne px'.symm]; exact hHx) hFx (by rw [upd_ne pd'.symm]; exact hHd) hFd hns ?_ nw nx' nd', fun b hb => hb, fun b hb hn => ⟨upd_ne fun z => hn (by rw [z]; exact List.mem_cons_of_mem _ (List.mem_cons_of_mem _ hpf')), (si.rel.loose b hb).1⟩⟩
            rw [hks', List.map_map]
            refine List.map_congr_left fun q _ => ?_
            show q.1 = (if q.1 = f then (q.1, PV.D.dic (putD kvs (.inr key) (.int v))) else q).1
            split <;> rfl
          exact hD _ _ _ _ ⟨si.st.updD hF (si.fr p hpfp) hp, r1, fun b hb => si.fr b (r2 b hb)⟩
        · cases hput
      | _ => cases hput
    · cases hf
  · cases hf
end
end PV

set_option Elab.async false
set_option linter.all false
set_option maxRecDepth 100000
set_option maxHeartbeats 4000000
/-! PV, part T: from the model's statements to ours; they are sound. -/
namespace PV
open PySem PySem.Spec PyProof.Rows L2 LamX NdefX
variable [Tabl]
/-! ### name = {..} on one line -/
theorem ps_setDc {X : Cx} {i : Nat} {y : Str} {py : Pos} {kx vx tg iter : Expr} {ifs : List Expr} {scope : Scope} {own : List (Str × Nat)} {pos spos : Pos} {wi : TI} {g : TG} {tt : TT} {tk tv : TE} (hc : X.calm = true) (hN : X.N.Nodup) (hy : X.N[i]? = some y) (hyl : X.env.scope.names.lookup y = some .local)
    (hsw : swapsWith (.DictComp kx vx [⟨tg, iter, ifs, 0⟩] scope pos) (some (.Name y py)) spos.line X.env = pure true) (hi : PI X tg iter wi) (ok : BlkOk X.N X.env.scope scope own)
    (hg : ∀ (s : Shared) (H : Hp) (C : Addr) (cl : List (Str × Addr)) (fp : List Addr), PG (X.blk s H scope (compEnvC scope cl C X.env) fp) tg g) (ht : ∀ (s : Shared) (H : Hp) (C : Addr) (cl : List (Str × Addr)) (fp : List Addr), PTs (X.blk s H scope (compEnvC scope cl C X.env) fp) ifs tt)
    (hk : ∀ (s : Shared) (H : Hp) (C : Addr) (cl : List (Str × Addr)) (fp : List Addr), PE (X.blk s H scope (compEnvC scope cl C X.env) fp) kx tk)
    (he : ∀ (s : Shared) (H : Hp) (C : Addr) (cl : List (Str × Addr)) (fp : List Addr), PE (X.blk s H scope (compEnvC scope cl C X.env) fp) vx tv) (hs : ∀ x, foldedSetIterable iter X.env x = pure x) :
    PS X (.Assign [.Name y py] (.DictComp kx vx [⟨tg, iter, ifs, 0⟩] scope pos) spos) (tAsg (tDc wi g tt tk tv (own.map (·.2))) (gName i)) := by
  refine ⟨fun pins s σ H D I h => ?_⟩
  rw [exec_Assign_Name_used _ _ _ _ hsw]
  refine wpAny_bind (wpAny_standAt (wpAny_bind ?_))
  show wpAny _ X.A (do let _ ← comprehension (.DictComp kx vx [⟨tg, iter, ifs, 0⟩] scope pos) scope X.env (firstIterPos [⟨tg, iter, ifs, 0⟩] pos) newDict false (eval iter X.env) (some (assign (.Name y py) X.env))) _ _ s
  have h : tDc wi g tt tk tv (own.map (·.2)) σ H (fun x H1 => gName i x σ H1 D.nx) := h
  refine wpAny_bind (thn (dc_core (Qf := fun _ s' => SP X pins D .next s') hc hN I hi ok hg ht hk he hs h fun L C s' m H' I' q hn f => ?_) fun _ s' hq => wpAny_pure (wpAny_pure hq))
  show wpAny _ _ (assign (.Name y py) X.env (.ref L)) _ _ _
  refine wpAny_assign_Name (store_ok2 (v := V.ref L) I' hN hy (.inl hyl) rfl (fun s2 I2 ⟨a, sb, ha⟩ => ?_) (.inr hyl))
  obtain ⟨f0, f1, f2, f3, f4, f5⟩ := f
  have haC : C ≠ a := by
    rcases ha with z | z
    · rw [z]; exact f1
    · exact fun e => f4 y a z e.symm
  refine ⟨m, hn.sameBut sb haC, fun h3 sb3 => ?_⟩
  exact ⟨_, H', I2.turned (t' := s2.toks) (fun b o hb e => (sb3.2 b hb).trans e) f0 f1 f3 f4 f5, q⟩

def popCall : Expr → Option (Str × Expr)
  | .Call (.Attribute (.Name d p2) m apos) [k] [] cpos => if m = "pop" ∧ (apos.endLine == cpos.line) = true then some (d, k) else none
  | _ => none
/-- a name to read, and its slot -/
def rdSlot (B : Blk) (x : Str) : Option Nat := if okName x = true ∧ visB B.sc x = true then slotOf B.N x else none
def trPar (n : Nat) (B : Blk) (ts vs : List Expr) : Option Sta := match ts, vs with
  | [.Name x px, .Name y py], [a, b] =>
    if B.sc.kind = .function ∧ B.sc.names.lookup x = some .local ∧ B.sc.names.lookup y = some .local ∧ x ≠ y ∧ px.line = py.line ∧ [a, b].all (foldedForSure 8) = false ∧ [a, b].all (constantsAlone 8) = false then
      match slotOf B.N x, slotOf B.N y, tr n B a, tr n B b with
      | some i, some j, some A, some A' => some (.par i j A A')
      | _, _, _, _ => none
    else none
  | _, _ => none
def isTup : Expr → Option (List Expr)
  | .Tuple vs _ _ => some vs
  | _ => none
/-- a, *b -/
def starTs : List Expr → Option (Str × Str)
  | [.Name x _, .Starred (.Name y _) _] => some (x, y)
  | _ => none
/-- x[k][j] = e, x[k] = e -/
def trSub (n : Nat) (B : Blk) (o k e : Expr) : Option Sta := match o with
  | .Name x _ => match rdSlot B x, tr n B k, tr n B e with
    | some i, some K, some E => if isList e = true then some (.seto i K E) else some (.seti i K E)
    | _, _, _ => none
  | .Subscript (.Name x _) a _ => match k with
    | .Constant (.int j) _ _ => match rdSlot B x, tr n B a, tr n B e with
      | some i, some A, some E => some (.upd2 i A j E)
      | _, _, _ => none
    | _ => none
  | .Attribute (.Name x _) f _ => match k with
    | .Constant (.str key) _ _ => match e with
      | .Constant (.int v) _ _ => (rdSlot B x).map fun i => .setf i f key v
      | _ => none
    | _ => none
  | _ => none
def trAsg (n : Nat) (B : Blk) (t e : Expr) : Option Sta := match t with
  | .Name x _ => if locB B.ws x = true then match slotOf B.N x with
      | some j => match popCall e with
        | some (d, k) => match rdSlot B d, tr n B k with
          | some i, some K => some (.popx j i K)
          | _, _ => none
        | none => (tr n B e).map (.set j)
      | none => none
    else none
  | .Tuple ts kk p => match isTup e with
    | some vs => if vs.all (foldedForSure 8) = true then match trTgs B ts, tr n B e with
        | some is, some E => some (.unp is E)
        | _, _ => none
      else trPar n B ts vs
    | none => match starTs ts with
      | some (x, y) => if locB B.ws x = true ∧ locB B.ws y = true ∧ x ≠ y then match slotOf B.N x, slotOf B.N y, tr n B e with
          | some i, some j, some E => some (.star i j E)
          | _, _, _ => none
        else none
      | none => match trTgs B ts, tr n B e with
        | some is, some E => some (.unp is E)
        | _, _ => none
  | .Subscript o k _ => trSub n B o k e
  | _ => none
def trExpr (n : Nat) (B : Blk) (e : Expr) : Option Sta := match e with
  | .Call (.Name f p) args kws pos => (tr n B (.Call (.Name f p) args kws pos)).map .exp
  | .Call (.Attribute (.Name d _) m apos) [] [] cpos => if m = "clear" ∧ (apos.endLine == cpos.line) = true then (rdSlot B d).map .clr else none
  | .Call (.Attribute (.Name d _) m apos) [k] [] cpos => if (apos.endLine == cpos.line) = true then match rdSlot B d, tr n B k with
      | some i, some K => if m = "append" then some (.app i K) else if m = "extend" then some (.ext i K) else if m = "pop" then some (.popd i K) else none
      | _, _ => none
    else none
  | _ => none
def trRet (n : Nat) (B : Blk) (e : Expr) : Option Sta := match e with
  | .Name x _ => match rdSlot B x with
    | some i => some (.retv i)
    | none => (tr n B e).map .ret
  | e => (tr n B e).map .ret
mutual
def trS (n : Nat) (B : Blk) : Nat → Stmt → Option Sta
  | 0, _ => none
  | q + 1, s => match s with
    | .Pass _ => some .pass
    | .Break _ => some .brk
    | .Continue _ => some .cnt
    | .Raise .. => some .bad
    | .Return v _ => match v with
      | none => some .retn
      | some e => trRet n B e
    | .If c a b _ => match tr n B c, trSs n B q a, trSs n B q b with
      | some c, some a, some b => some (.ite c a b)
      | _, _, _ => none
    | .For tg it b orelse _ => match orelse with
      | [] => match trTg B tg, trIter (tr n B) B tg it, trSs n B q b with
        | some t, some i, some b => some (.for_ t i b)
        | _, _, _ => none
      | _ => none
    | .While c b orelse _ => match orelse with
      | [] => match tr n B c, trSs n B q b with
        | some c, some b => some (.whl c b)
        | _, _ => none
      | _ => none
    | .Assign ts e _ => match ts with
      | [t] => trAsg n B t e
      | _ => none
    | .Expr e _ => trExpr n B e
    | _ => none
def trSs (n : Nat) (B : Blk) : Nat → List Stmt → Option Sta
  | 0, _ => none
  | q + 1, ss => match ss with
    | [] => some .nil
    | s :: r => match trS n B q s, trSs n B q r with
      | some a, some b => some (.cons a b)
      | _, _ => none
end
section
variable {g : G5} {lvl : Nat} {C : Fn → List D → List Str → List D → Option (Nat × D)} {G : Glo} {n : Nat} {B : Blk} {X : Cx}
theorem nm_of (x : XOk X B lvl) {y : Str} {i : Nat} (h : rdSlot B y = some i) : Nm X y i := by
  unfold rdSlot at h
  split at h
  · rename_i hc
    obtain ⟨h1, h2, h3⟩ := ok_dbg hc.1
    exact ⟨by rw [x.N_]; exact slotOf_get h, by rw [x.sc_]; exact vis_of hc.2, h1, h2⟩
  · cases h
theorem be_we (S : Snd g lvl C G n) (o : On g X) (x : XOk X B lvl) {e : Expr} {E : Exp} (h : tr n B e = some E) : BE X.K (WE X e) (evS C G E) := be_of fun σ F ρ k d sr he => (S B e E h X o x σ F ρ sr k d he).1
theorem be_t (S : Snd g lvl C G n) (o : On g X) (x : XOk X B lvl) {e : Expr} {E : Exp} (h : tr n B e = some E) : ∀ σ F ρ b k, SlotR X.K F σ ρ → ev C G E ρ = some (k, .bl b) → EvT X e σ F b := fun σ F ρ b k sr he => (S B e E h X o x σ F ρ sr k _ he).2 b rfl
theorem sw_sub (e : Expr) (o k : Expr) (t : Pos) (l : Nat) (env : PySem.Env) : swapsWith e (some (.Subscript o k t)) l env = pure false := by
  cases e <;> rfl
theorem sw_tup (e : Expr) (es : List Expr) (kk : Nat) (t : Pos) (l : Nat) (env : PySem.Env) : swapsWith e (some (.Tuple es kk t)) l env = pure false := by
  cases e <;> rfl
theorem ss_sub (e : Expr) (o k : Expr) (t : Pos) (env : PySem.Env) : swappedStores [.Subscript o k t] e env = pure none := by
  cases e <;> rfl
theorem as_sub {k : Expr} {K : Exp} (h : tr n B k = some K) (o : Expr) (t : Pos) (env : PySem.Env) (v : Value) : assign (.Subscript o k t) env v = (do let ov ← holding [v] (eval o env); let iv ← holding [v, ov] (eval k env); standAt t; holding [v, ov, iv] (setItem ov iv v); release [v, ov, iv] []) := by
  cases n with
  | zero => cases h
  | succ n => cases k <;> first | rfl | cases h
/-- name = e -/
theorem be_wu (hc : CallS g lvl C) (hg : GloS g G) (hb : BltS g) (o : On g X) (x : XOk X B lvl) {e : Expr} {E : Exp} (h : tr n B e = some E) {y : Str} {py spos : Pos} {j : Nat} (hl : locB B.ws y = true) (hj : slotOf B.N y = some j) :
    BE X.K (WU X (.Assign [.Name y py] e spos) j) (evS C G E) := by
  obtain ⟨l1, l2⟩ := x.asg y hl
  have plain : (∀ l, swapsWith e (some (.Name y py)) l X.env = pure false) → BE X.K (WU X (.Assign [.Name y py] e spos) j) (evS C G E) := fun hs => be_of fun σ F ρ k d sr he F1 H e1 e2 Q q D hQ => by
    subst hQ
    exact ws_of (ps_set (by rw [x.N_]; exact x.nd) (by rw [x.N_]; exact slotOf_get hj) (by rw [x.sc_]; exact l1) pe_W (hs _) (by rw [x.sc_]; exact l2)) ((snd_all hc hg hb n B e E h X o x σ F ρ sr k d he).1 F1 H e1 e2 _ q)
  cases n with
  | zero => cases h
  | succ n =>
    have S := snd_all hc hg hb n (g := g)
    cases e <;> try (exact plain fun _ => rfl)
    case ListComp elt gs scope pos =>
      cases hsw : (X.env.blockKind == .function && X.env.kindOf y == some .local && py.line == pos.line && !(scope.names.any fun (n, k) => n == y && (k == .local || k == .cell))) with
      | false =>
        have hpl : ∀ l, swapsWith (.ListComp elt gs scope pos) (some (.Name y py)) l X.env = pure false := by
          intro l
          show pure (X.env.blockKind == .function && X.env.kindOf y == some .local && py.line == pos.line && !(scope.names.any fun (n, k) => n == y && (k == .local || k == .cell))) = _
          rw [hsw]
        exact plain hpl
      | true =>
        have hloc : X.env.scope.names.lookup y = some .local := by
          simp only [Bool.and_eq_true, beq_iff_eq] at hsw
          exact hsw.1.1.2
        refine be_of fun σ F ρ k d hs q => ?_
        unfold tr at h
        dsimp only at h
        split at h
        · rename_i tg iter ifs as
          split at h
          · rename_i hcond
            obtain ⟨rfl, hblk⟩ := hcond
            split at h
            · rename_i t it c y' ht hit hcc hy
              split at h
              · rename_i hsub
                cases h
                simp only [ev] at q
                split at q
                · rename_i ds hds
                  obtain ⟨ys, hys, e⟩ := Option.map_eq_some_iff.mp q
                  cases e
                  refine comp_any x hb hg S o hs wu_lock hit hds fun F' hs' hi' => comp_lc S o x (fun σ H Q hr D hQ => ?_) hcc hy hsub hi' hs' hys
                  subst hQ
                  refine ws_of (ps_setLc x.calm (by rw [x.N_]; exact x.nd) (by rw [x.N_]; exact slotOf_get hj) hloc ?_ pi_W (by rw [x.N_, x.sc_]; exact blkOk_by hblk) (fun s H' C cl fp => pg_of (x.blk s H' scope C cl fp) ht) ptB peB (iter_fold hit _)) hr
                  show pure (X.env.blockKind == .function && X.env.kindOf y == some .local && py.line == pos.line && !(scope.names.any fun (n, k) => n == y && (k == .local || k == .cell))) = _
                  rw [hsw]
                · cases q
              · cases h
            · cases h
          · cases h
        · cases h
    case DictComp kx vx gs scope pos =>
      cases hsw : (X.env.blockKind == .function && X.env.kindOf y == some .local && py.line == pos.line && !(scope.names.any fun (n, k) => n == y && (k == .local || k == .cell))) with
      | false =>
        have hpl : ∀ l, swapsWith (.DictComp kx vx gs scope pos) (some (.Name y py)) l X.env = pure false := by
          intro l
          show pure (X.env.blockKind == .function && X.env.kindOf y == some .local && py.line == pos.line && !(scope.names.any fun (n, k) => n == y && (k == .local || k == .cell))) = _
          rw [hsw]
        exact plain hpl
      | true =>
        have hloc : X.env.scope.names.lookup y = some .local := by
          simp only [Bool.and_eq_true, beq_iff_eq] at hsw
          exact hsw.1.1.2
        refine be_of fun σ F ρ k d hs q => ?_
        unfold tr at h
        dsimp only at h
        split at h
        · rename_i tg iter ifs as
          split at h
          · rename_i hcond
            obtain ⟨rfl, hblk⟩ := hcond
            split at h
            · rename_i t it c y' z' ht hit hcc hy hz
              split at h
              · rename_i hsub
                cases hli : isList vx with
                | true =>
                  rw [if_pos hli] at h
                  cases h
                  simp only [ev] at q
                  split at q
                  · rename_i ds hds
                    obtain ⟨ys, hys, e⟩ := Option.map_eq_some_iff.mp q
                    cases e
                    refine comp_any x hb hg S o hs wu_lock hit hds fun F' hs' hi' => comp_dco S o x (fun σ H Q hr D hQ => ?_) hcc hy hz hsub hi' hs' hys
                    subst hQ
                    refine ws_of (ps_setDc x.calm (by rw [x.N_]; exact x.nd) (by rw [x.N_]; exact slotOf_get hj) hloc ?_ pi_W (by rw [x.N_, x.sc_]; exact blkOk_by hblk) (fun s H' C cl fp => pg_of (x.blk s H' scope C cl fp) ht) ptB peB peB (iter_fold hit _)) hr
                    show pure (X.env.blockKind == .function && X.env.kindOf y == some .local && py.line == pos.line && !(scope.names.any fun (n, k) => n == y && (k == .local || k == .cell))) = _
                    rw [hsw]
                  · cases q
                | false =>
                  rw [if_neg (by rw [hli]; exact Bool.false_ne_true)] at h
                  cases h
                  simp only [ev] at q
                  split at q
                  · rename_i ds hds
                    obtain ⟨ys, hys, e⟩ := Option.map_eq_some_iff.mp q
                    cases e
                    refine comp_any x hb hg S o hs wu_lock hit hds fun F' hs' hi' => comp_dc S o x (fun σ H Q hr D hQ => ?_) hcc hy hz hsub hi' hs' hys
                    subst hQ
                    refine ws_of (ps_setDc x.calm (by rw [x.N_]; exact x.nd) (by rw [x.N_]; exact slotOf_get hj) hloc ?_ pi_W (by rw [x.N_, x.sc_]; exact blkOk_by hblk) (fun s H' C cl fp => pg_of (x.blk s H' scope C cl fp) ht) ptB peB peB (iter_fold hit _)) hr
                    show pure (X.env.blockKind == .function && X.env.kindOf y == some .local && py.line == pos.line && !(scope.names.any fun (n, k) => n == y && (k == .local || k == .cell))) = _
                    rw [hsw]
                  · cases q
              · cases h
            · cases h
          · cases h
        · cases h
    case SetComp elt gs scope pos => cases h
end
end PV

set_option Elab.async false
set_option linter.all false
set_option maxRecDepth 100000
set_option maxHeartbeats 4000000
/-! PV, part U: statements are sound. -/
namespace PV
open PySem PySem.Spec PyProof.Rows L2 LamX NdefX
variable [Tabl]
section
variable {g : G5} {lvl : Nat} {C : Fn → List D → List Str → List D → Option (Nat × D)} {G : Glo} {n : Nat} {B : Blk} {X : Cx}
theorem popCall_inv {e : Expr} {d : Str} {k : Expr} (h : popCall e = some (d, k)) : ∃ p2 apos cpos, e = .Call (.Attribute (.Name d p2) "pop" apos) [k] [] cpos ∧ (apos.endLine == cpos.line) = true := by
  unfold popCall at h
  split at h
  · split at h
    · rename_i hc
      obtain ⟨rfl, hl⟩ := hc
      cases h
      exact ⟨_, _, _, rfl, hl⟩
    · cases h
  · cases h
theorem m1_of {k : Expr} (na : Pl X k) {d : Str} {p2 apos cpos : Pos} (hl : (apos.endLine == cpos.line) = true) : M1 X (.Name d p2) "pop" apos k cpos := ⟨rfl, few1 na, hl, by
  rw [na []]; rfl⟩
theorem ss_tup {ts : List Expr} {kk : Nat} {p : Pos} {e : Expr} (h : isTup e = none) (env : PySem.Env) : swappedStores [.Tuple ts kk p] e env = pure none := by
  cases e <;> first | rfl | cases h
theorem ss_fold {ts vs : List Expr} {kk k2 : Nat} {p p2 : Pos} (h : vs.all (foldedForSure 8) = true) (env : PySem.Env) : swappedStores [.Tuple ts kk p] (.Tuple vs k2 p2) env = pure none := by
  show (do
    if !(ts.length == 2 || ts.length == 3) || vs.length != ts.length || env.blockKind != .function then return none
    if vs.any fun | .Starred .. => true | _ => false then return none
    let line := (ts.head?.map (·.pos.line)).getD 0
    let names := ts.filterMap fun
      | .Name id pos => if env.kindOf id == some .local && pos.line == line then some id else none
      | _ => none
    if names.length != ts.length || names.eraseDups.length != names.length then return none
    if vs.all (foldedForSure 8) then return none
    if vs.all (constantsAlone 8) then unsupported "assign.tuple-of-constant-expressions:order-of-the-stores"
    return some names : Sem (Option (List Str))) = pure none
  rw [h]
  split
  · rfl
  · split
    · rfl
    · dsimp only
      split
      · rfl
      · rfl
def isStar : Expr → Bool
  | .Starred .. => true
  | _ => false
theorem tr_nostar {e : Expr} {E : Exp} (h : tr n B e = some E) : isStar e = false := by
  cases n with
  | zero => cases h
  | succ n => cases e <;> first | rfl | cases h
theorem ss_par {a b : Expr} {x y : Str} {px py p p2 : Pos} {kk k2 : Nat} (env : PySem.Env) (hk : env.scope.kind = .function) (hx : env.scope.names.lookup x = some .local) (hy : env.scope.names.lookup y = some .local) (hne : x ≠ y) (hl : px.line = py.line)
    (h1 : [a, b].all (foldedForSure 8) = false) (h2 : [a, b].all (constantsAlone 8) = false) (na : isStar a = false) (nb : isStar b = false) :
    swappedStores [.Tuple [.Name x px, .Name y py] kk p] (.Tuple [a, b] k2 p2) env = pure (some [x, y]) := by
  have e1 : (env.kindOf x == some .local && px.line == px.line) = true := by
    show ((env.scope.names.lookup x == some .local) && _) = true
    rw [hx]; simp
  have e2 : (env.kindOf y == some .local && py.line == px.line) = true := by
    show ((env.scope.names.lookup y == some .local) && _) = true
    rw [hy, hl]; simp
  have e3 : (env.blockKind != .function) = false := by
    unfold PySem.Env.blockKind
    rw [hk]; rfl
  have e4 : ([a, b].any fun | .Starred .. => true | _ => false) = false := by
    simp only [List.any_cons, List.any_nil, Bool.or_false]
    rw [Bool.or_eq_false_iff]
    constructor
    · cases a <;> first | rfl | cases na
    · cases b <;> first | rfl | cases nb
  have e5 : ([Expr.Name x px, .Name y py].filterMap fun
      | .Name id pos => if env.kindOf id == some .local && pos.line == px.line then some id else none
      | _ => none) = [x, y] := by
    simp only [List.filterMap_cons, List.filterMap_nil, e1, e2, if_true]
  have e6 : ([x, y].eraseDups.length != [x, y].length) = false := by
    have : ([x, y] : List Str).eraseDups = [x, y] := by
      rw [List.eraseDups_cons]
      have : (!y == x) = true := by simp [Ne.symm hne]
      simp only [List.filter_cons, this, if_true, List.filter_nil]
      rfl
    rw [this]; rfl
  show (do
    if !(2 == 2 || 2 == 3) || 2 != 2 || env.blockKind != .function then return none
    if [a, b].any fun | .Starred .. => true | _ => false then return none
    let line := px.line
    let names := [Expr.Name x px, .Name y py].filterMap fun
      | .Name id pos => if env.kindOf id == some .local && pos.line == line then some id else none
      | _ => none
    if names.length != 2 || names.eraseDups.length != names.length then return none
    if [a, b].all (foldedForSure 8) then return none
    if [a, b].all (constantsAlone 8) then unsupported "assign.tuple-of-constant-expressions:order-of-the-stores"
    return some names : Sem (Option (List Str))) = pure (some [x, y])
  rw [e3, e4, h1, h2]
  dsimp only
  rw [e5, e6]
  rfl
theorem tr_nosl {e : Expr} {E : Exp} (h : tr n B e = some E) : NoSl e := by
  cases n with
  | zero => cases h
  | succ n => cases e <;> first | (intro _ _; rfl) | cases h
theorem starTs_inv {ts : List Expr} {a b : Str} (h : starTs ts = some (a, b)) : ∃ p1 p2 p3, ts = [.Name a p1, .Starred (.Name b p2) p3] := by
  unfold starTs at h
  split at h
  · cases h; exact ⟨_, _, _, rfl⟩
  · cases h
theorem st_all (hc : CallS g lvl C) (hg : GloS g G) (hb : BltS g) (o : On g X) (x : XOk X B lvl) (hp : PassesOwn (model X.prog X.w) X.A X.env X.xe) (w : Nat) : ∀ q, (∀ s S, trS n B q s = some S → StOk X.K (WS X s) (exec C G w S)) ∧ (∀ ss S, trSs n B q ss = some S → StOk X.K (WSs X ss) (exec C G w S))
  | 0 => ⟨fun s S h => by simp [trS] at h, fun ss S h => by simp [trSs] at h⟩
  | q + 1 => by
    have S0 := snd_all hc hg hb n (g := g)
    obtain ⟨i1, i2⟩ := st_all hc hg hb o x hp w q
    refine ⟨fun s S h => ?_, fun ss S h => ?_⟩
    · unfold trS at h
      split at h
      · cases h; exact st_pass
      · cases h; exact st_brk
      · cases h; exact st_cnt
      · cases h; exact fun F0 H0 F H σ ρ fp out D si hf hD => by cases hf
      · split at h
        · cases h; exact st_retn
        · rename_i e
          have gen : ∀ {E : Exp} {ps : Pos}, tr n B e = some E → StOk X.K (WS X (.Return (some e) ps)) (exec C G w (.ret E)) := fun {E ps} hE => st_ret (be_we S0 o x hE)
          unfold trRet at h
          split at h
          · rename_i y p
            split at h
            · rename_i i hi
              cases h
              have nm := nm_of x hi
              exact st_retv nm.N nm.v nm.d nm.c
            · obtain ⟨E, hE, rfl⟩ := Option.map_eq_some_iff.mp h
              exact gen hE
          · obtain ⟨E, hE, rfl⟩ := Option.map_eq_some_iff.mp h
            exact gen hE
      · split at h
        · rename_i c' a' b' h1 h2 h3
          cases h
          exact st_if (be_t S0 o x h1) (i2 _ _ h2) (i2 _ _ h3)
        · cases h
      · split at h
        · split at h
          · rename_i t i b h1 h2 h3
            cases h
            exact st_for hp x.calm (iter_fold h2 _) (pg_of x h1) (fun σ F ρ ds hs hd q => snd_iter S0 hb o x hs h2 q hd) (i2 _ _ h3)
          · cases h
        · cases h
      · split at h
        · split at h
          · rename_i c b h1 h2
            cases h
            exact st_whl hp (be_t S0 o x h1) (i2 _ _ h2) w
          · cases h
        · cases h
      · split at h
        · rename_i t
          unfold trAsg at h
          split at h
          · rename_i y py
            split at h
            · rename_i hl
              split at h
              · rename_i j hj
                split at h
                · rename_i d k hpc
                  split at h
                  · rename_i i K' hi hK
                    cases h
                    obtain ⟨p2, apos, cpos, rfl, hline⟩ := popCall_inv hpc
                    obtain ⟨l1, l2⟩ := x.asg y hl
                    exact st_popx (nm_of x hi) (be_we S0 o x hK) (m1_of (tr_pl hK X) hline) (by rw [x.N_]; exact x.nd) (by rw [x.N_]; exact slotOf_get hj) (by rw [x.sc_]; exact l1) (by rw [x.sc_]; exact l2)
                  · cases h
                · obtain ⟨E, hE, rfl⟩ := Option.map_eq_some_iff.mp h
                  exact st_set (be_wu hc hg hb o x hE hl hj)
              · cases h
            · cases h
          · rename_i ts kk p
            have unp : ∀ {e : Expr} {is : List Nat} {E : Exp} {sp : Pos}, trTgs B ts = some is → tr n B e = some E → swappedStores [.Tuple ts kk p] e X.env = pure none → StOk X.K (WS X (.Assign [.Tuple ts kk p] e sp)) (exec C G w (.unp is E)) := fun {e is E sp} h1 h2 h3 =>
              st_unpL (be_we S0 o x h2) (pg_of x (show trTg B (.Tuple ts kk p) = some (.many is) by show (trTgs B ts).map Tg.many = _; rw [h1]; rfl)) (by
                obtain ⟨p1, p2, p3⟩ := pgs_of x X.K h1
                exact pg_unl x.calm p1 p2 p3) (fun l => sw_tup _ _ _ _ _ _) h3
            split at h
            · rename_i vs hv
              split at h
              · rename_i hf
                split at h
                · rename_i is E h1 h2
                  cases h
                  refine unp h1 h2 ?_
                  unfold isTup at hv
                  split at hv
                  · cases hv; exact ss_fold hf _
                  · cases hv
                · cases h
              · unfold trPar at h
                split at h
                · rename_i a1 px b1 py a b hnf
                  split at h
                  · rename_i hcond
                    obtain ⟨c1, c2, c3, c4, c5, c6, c7⟩ := hcond
                    split at h
                    · rename_i i j A A' hi hj hA hA'
                      cases h
                      unfold isTup at hv
                      split at hv
                      · cases hv
                        refine st_par (be_we S0 o x hA) (be_we S0 o x hA') (tr_pl hA X) (tr_pl hA' X) x.calm (by rw [x.N_]; exact x.nd) (by rw [x.N_]; exact slotOf_get hi) (by rw [x.N_]; exact slotOf_get hj) ?_ (by rw [x.sc_]; exact c2) (by rw [x.sc_]; exact c3) (ss_par X.env (by rw [x.sc_]; exact c1) (by rw [x.sc_]; exact c2) (by rw [x.sc_]; exact c3) c4 c5 c6 c7 (tr_nostar hA) (tr_nostar hA'))
                        intro e
                        subst e
                        have := (slotOf_get hi).symm.trans (slotOf_get hj)
                        cases this
                        exact c4 rfl
                      · cases hv
                    · cases h
                  · cases h
                · cases h
            · rename_i hv
              split at h
              · rename_i x1 x2 hst
                obtain ⟨p1, p2, p3, rfl⟩ := starTs_inv hst
                split at h
                · rename_i hcond
                  obtain ⟨c1, c2, c3⟩ := hcond
                  split at h
                  · rename_i i j E hi hj hE
                    cases h
                    obtain ⟨l1, l2⟩ := x.asg x1 c1
                    obtain ⟨m1, m2⟩ := x.asg x2 c2
                    refine st_star ?_ (be_we S0 o x hE) (pg_star x.calm (pgs_cons (pg_name (by rw [x.N_]; exact x.nd) (by rw [x.N_]; exact slotOf_get hi) (by rw [x.sc_]; exact l1) (by rw [x.sc_]; exact l2)) (pgs_cons (pg_name (by rw [x.N_]; exact x.nd) (by rw [x.N_]; exact slotOf_get hj) (by rw [x.sc_]; exact m1) (by rw [x.sc_]; exact m2)) pgs_nil))) (fun l => sw_tup _ _ _ _ _ _) (ss_tup hv _)
                    intro e
                    subst e
                    have := (slotOf_get hi).symm.trans (slotOf_get hj)
                    cases this
                    exact c3 rfl
                  · cases h
                · cases h
              · split at h
                · rename_i is E h1 h2
                  cases h
                  exact unp h1 h2 (ss_tup hv _)
                · cases h
          · unfold trSub at h
            split at h
            · split at h
              · rename_i i K' E h1 h2 h3
                split at h
                · cases h
                  exact st_seto (by have := x.room.un; omega) (nm_of x h1) (be_we S0 o x h3) (be_we S0 o x h2) (fun t l => sw_sub _ _ _ _ _ _)
                · cases h
                  exact st_seti (by have := x.room.un; omega) (nm_of x h1) (be_we S0 o x h3) (be_we S0 o x h2) (fun t l => sw_sub _ _ _ _ _ _) (fun t => ss_sub _ _ _ _ _) fun t v => as_sub h2 _ _ _ _
              · cases h
            · split at h
              · split at h
                · rename_i i A E h1 h2 h3
                  cases h
                  exact st_upd2 (by have := x.room.un; omega) (nm_of x h1) (be_we S0 o x h3) (be_we S0 o x h2) (tr_nosl h2) (fun t l o => sw_sub _ _ _ _ _ _) (fun t o => ss_sub _ _ _ _ _)
                · cases h
              · cases h
            · split at h
              · split at h
                · obtain ⟨i, hi, rfl⟩ := Option.map_eq_some_iff.mp h
                  exact st_setf (by have := x.room.un; omega) (nm_of x hi) (by rw [o.k]; exact fun c hc => hg.fld c _ hc)
                · cases h
              · cases h
            · cases h
          · cases h
        · cases h
      · unfold trExpr at h
        split at h
        · obtain ⟨E, hE, rfl⟩ := Option.map_eq_some_iff.mp h
          exact st_exp (be_we S0 o x hE)
        · split at h
          · rename_i hc2
            obtain ⟨hm, hline⟩ := hc2
            subst hm
            obtain ⟨i, hi, rfl⟩ := Option.map_eq_some_iff.mp h
            exact st_clr (nm_of x hi) hline
          · cases h
        · split at h
          · rename_i hline
            split at h
            · rename_i i K' hi hK
              split at h
              · rename_i hm
                subst hm
                cases h
                exact st_app (nm_of x hi) (be_we S0 o x hK) (tr_pl hK X) hline
              · split at h
                · rename_i hm
                  subst hm
                  cases h
                  exact st_ext (nm_of x hi) (be_we S0 o x hK) (tr_pl hK X) hline
                · split at h
                  · rename_i hm
                    subst hm
                    cases h
                    exact st_popd (nm_of x hi) (be_we S0 o x hK) (m1_of (tr_pl hK X) hline)
                  · cases h
            · cases h
          · cases h
        · cases h
      · cases h
    · unfold trSs at h
      split at h
      · cases h; exact st_nil
      · split at h
        · rename_i a b h1 h2
          cases h
          exact st_cons (i1 _ _ h1) (i2 _ _ h2)
        · cases h
end
end PV

set_option Elab.async false
set_option linter.all false
set_option maxRecDepth 100000
set_option maxHeartbeats 4000000
/-! PV, part V: defs, classes, methods, and calls of them. -/
namespace PV
open PySem PySem.Spec PyProof.Rows L2 LamX NdefX
variable [Tabl]
abbrev CT := Fn → List D → List Str → List D → Option (Nat × D)
/-- one way to call a def: n values, keywords ks; what each parameter takes: the i-th of the values and keywords' values, or a default -/
structure Way where
  n : Nat
  ks : List Str
  fill : List (Nat ⊕ D)
def fillD (f : List (Nat ⊕ D)) (l : List D) : List D := f.map fun | .inl i => l.getD i .non | .inr d => d
def wayB (ws : List Way) (n : Nat) (ks : List Str) : Option Way := ws.find? fun w => decide (w.n = n) && decide (w.ks = ks)
theorem wayB_inv {ws : List Way} {n : Nat} {ks : List Str} {w : Way} (h : wayB ws n ks = some w) : w ∈ ws ∧ w.n = n ∧ w.ks = ks := by
  unfold wayB at h
  refine ⟨List.mem_of_find?_eq_some h, ?_⟩
  have := List.find?_some h
  simp only [Bool.and_eq_true, decide_eq_true_eq] at this
  exact this
/-- a def: its text, its slots, its parameters, its ways -/
structure Dfn where
  nm : Str
  ql : Str
  st : Stmt
  N : List Str
  ps : List Str
  lam : Bool
  ways : List Way
  body : Sta
/-- a class: its __init__ sets fields, one behind another -/
structure Cdf where
  nm : Str
  ql : Str
  st : Stmt
  N : List Str
  ps : List Str
  ways : List Way
  sets : List (Str × Exp)
structure Tbl where
  df : Str → Option Dfn
  cl : Str → Option Cdf
  me : Str → Str → Option Dfn
def env0 (N : List Str) (ds : List D) : Env := ds.map (fun d => some (0, d)) ++ List.replicate (N.length - ds.length) none
def runD (C : CT) (G : Glo) (w : Nat) (t : Dfn) (ds : List D) : Option (Nat × D) := match exec C G w t.body (env0 t.N ds) with
  | some (.rt k d) => some (k, d)
  | some (.nx _) => some (0, .non)
  | _ => none
/-- no def is called -/
def C0 : CT := fun _ _ _ _ => none
/-- the slots of __init__: self is unknown -/
def ro0 (N : List Str) (ds : List D) : Ro := none :: (ds.map some ++ List.replicate (N.length - (ds.length + 1)) none)
def flds (G : Glo) (ρ : Ro) : List (Str × Exp) → Option (List (Str × Nat × D))
  | [] => some []
  | (f, e) :: r => match ev C0 G e ρ, flds G ρ r with
    | some (k, d), some l => some ((f, k, d) :: l)
    | _, _ => none
def topk : List (Str × Nat × D) → Nat
  | [] => 0
  | (_, k, d) :: r => if imm d = true then topk r else max k (topk r)
def runC (G : Glo) (c : Cdf) (ds : List D) : Option (Nat × D) := match flds G (ro0 c.N ds) c.sets with
  | some l => if l.all (fun p => imm p.2.2 || decide (p.2.1 = topk l)) = true then some (topk l + 1, .ins c.nm (l.map fun p => (p.1, p.2.2))) else none
  | none => none
def callT (T : Tbl) (G : Glo) (w k : Nat) (C : CT) : CT
  | .fn x, ds, ks, es => match T.df x with
    | some t => match wayB t.ways ds.length ks with
      | some y => if es.length = ks.length ∧ y.fill.length = t.ps.length ∧ (t.lam = true → 3 ≤ k) then runD C G w t (fillD y.fill (ds ++ es)) else none
      | none => none
    | none => match T.cl x with
      | some c => if ds ≠ [] ∧ ks = [] ∧ es = [] ∧ 1 ≤ k ∧ ds.length + 1 = c.ps.length then runC G c ds else none
      | none => none
  | .me c m, ds, ks, es => match T.me c m with
    | some t => match wayB t.ways ds.length ks with
      | some y => if es.length = ks.length ∧ y.fill.length = t.ps.length ∧ (t.lam = true → 3 ≤ k) then runD C G w t (fillD y.fill (ds ++ es)) else none
      | none => none
    | none => none
def callD (T : Tbl) (G : Glo) (w : Nat) : Nat → CT
  | 0 => fun _ _ _ _ => none
  | k + 1 => callT T G w k (callD T G w k)
/-- the qualified name of a lambda of a def -/
def lamQ (ql : Str) : Str := (ql ++ ".<locals>.") ++ "<lambda>"
/-- how a way binds -/
def WayOk (K : PySem.W.Frag) (fd : FuncData) (ps : List Str) (y : Way) : Prop := ∃ gx gV, KBn K fd ps y.n y.ks gx gV ∧ ∀ F vs zs ds es, Dats K F vs ds → Dats K F zs es → ds.length = y.n → es.length = y.ks.length → Dats K F (gV vs zs) (fillD y.fill (ds ++ es))
/-- what the module tells of a def -/
structure DfOk (g : G5) (t : Dfn) (f : Addr) (fd : FuncData) : Prop where
  fn : L2.Fun g.K t.nm t.ql t.st f fd
  sc : FnScope t.N t.ps (defScope t.st)
  tr : ∃ n q, trSs n ⟨t.N, defScope t.st, defScope t.st, t.lam⟩ q (defBody t.st) = some t.body
  way : ∀ y ∈ t.ways, WayOk g.K fd t.ps y
  lam : t.lam = true → ∃ c P, TabB g.base g.mg c P ∧ fd.code = .ref c ∧ (P, lamQ t.ql) ∈ Tabl.T ∧ ∀ p ∈ Tabl.T, p.1 = P → p.2 = lamQ t.ql
def spD (K : PySem.W.Frag) (C : CT) (G : Glo) (w : Nat) (t : Dfn) : Sp := fun vs H Q _ => ∃ F ds k d, Fh F H ∧ Dats K F vs ds ∧ ds.length = t.ps.length ∧ runD C G w t ds = some (k, d) ∧
  ∀ v F' H' fq, Stp F H F' H' → Own K F' H' k v d fq → (∀ a ∈ fq, H a = none) → Q v H'
theorem loc_of {sc : Scope} {x : Str} (hx : locB sc x = true) : Loc sc x := by
  unfold locB at hx
  split at hx
  · rename_i e; exact .inl e
  · rename_i e; exact .inr e
  · cases hx
theorem rel_start {K : PySem.W.Frag} {F H : Hp} {n : Nat} : ∀ {vs : List V} {ds : List D}, Dats K F vs ds → Rel K F H (vs.map some ++ List.replicate n none) (ds.map (fun d => some (0, d)) ++ List.replicate n none) []
  | _, _, .nil => by
    show Rel K F H (List.replicate n none) (List.replicate n none) []
    induction n with
    | zero => exact .nil
    | succ n ih => exact .no ih
  | _, _, .cons h t => .sl (fq := []) (.frz h) (rel_start t) (by simp)
section
variable {g : G5} {G : Glo} {w : Nat} {t : Dfn} {f : Addr} {fd : FuncData}
theorem lamF_of {P : Program} {w : World} {K : PySem.W.Frag} {mg : Str → Option Value} {base : Heap} {N : List Str} {ql : Str} {sc : Scope} {f c R : Addr} {cdv : Value} {A : Around} {outer : List PySem.Env} {s : Shared} {H : Hp} {E : XK} (tb : TabB base mg c R) (hc : cdv = .ref c)
    (hT : (R, lamQ ql) ∈ Tabl.T ∧ ∀ p ∈ Tabl.T, p.1 = R → p.2 = lamQ ql) : LamF (cxOf L2.CX0 P w K mg base N ql sc f cdv A outer s H E).nox := by
  subst hc
  have e : (cxOf L2.CX0 P w K mg base N ql sc f (.ref c) A outer s H E).nox.env.qual = ql ++ ".<locals>." := rfl
  unfold LamF
  rw [e]
  exact ⟨c, R, tb, rfl, hT⟩
theorem fn_ok {k : Nat} {C : CT} (o : DfOk g t f fd) (hc : CallS g k C) (hg : GloS g G) (hb : BltS g) (hlam : t.lam = true → 3 ≤ k) : FnOk g.P g.w g.K g.mg g.base L2.CX0 (k + 1) f fd t.ps (spD g.K C G w t) := by
  obtain ⟨n, q, htr⟩ := o.tr
  obtain ⟨oc, od, kV, doc, pm, an, cdv, ct, osl, rfl, lk, hcd⟩ := o.fn.ex
  refine fn_of lk hcd o.sc (fun vs H Q E ⟨F, ds, k, d, _, h2, h3, _⟩ => by rw [h2.length]; exact h3) fun A outer s H vs Q E hr hsp => ?_
  obtain ⟨F, ds, j, d, ex, hd, hl, hrun, hQ⟩ := hsp
  refine ⟨WSs (cxOf L2.CX0 g.P g.w g.K g.mg g.base t.N t.ql (defScope t.st) f cdv A outer s H E).nox _, (pss_W).nox, ?_⟩
  have hon : On g (cxOf L2.CX0 g.P g.w g.K g.mg g.base t.N t.ql (defScope t.st) f cdv A outer s H E).nox := ⟨rfl, rfl, rfl, rfl, rfl⟩
  have hx : XOk (cxOf L2.CX0 g.P g.w g.K g.mg g.base t.N t.ql (defScope t.st) f cdv A outer s H E).nox ⟨t.N, defScope t.st, defScope t.st, t.lam⟩ k := ⟨rfl, o.sc.nd, rfl, rfl, hr, fun x hx => ⟨loc_of hx, .inl rfl⟩, fun hl => by
    obtain ⟨c, P, tb, hcode, hT⟩ := o.lam hl
    have hcode' : cdv = .ref c := hcode
    exact ⟨lamF_of tb hcode' hT, hr.mono (hlam hl)⟩⟩
  have main := (st_all hc hg hb hon hx PassesOwn.never w q (n := n)).2 _ _ htr
  have hs : SI g.K F H F H (L2.start t.N vs) (env0 t.N ds) [] := ⟨.refl ex, by
    unfold L2.start env0
    rw [hd.length]
    exact rel_start hd, by simp⟩
  unfold runD at hrun
  split at hrun
  · rename_i k' d' he
    cases hrun
    exact main F H F H _ _ _ _ _ hs he fun v F' H' fq st ow fr => hQ v F' H' fq st ow fr
  · rename_i ρ he
    cases hrun
    exact main F H F H _ _ _ _ _ hs he fun F' H' σ fp si => hQ .non F' H' [] si.st (.frz .non) (by simp)
  · cases hrun
end
theorem kwn_all {kws : List Keyword} {ks : List Str} (env : PySem.Env) : kwNames kws = some ks → (keywordEach kws env).map (·.1) = ks.map some := by
  induction kws generalizing ks with
  | nil => intro h; cases h; rfl
  | cons k r ih =>
    intro h
    unfold kwNames at h
    split at h
    · rename_i n ns h1 h2
      cases h
      obtain ⟨a, v, p⟩ := k
      cases h1
      show some n :: (keywordEach r env).map (·.1) = some n :: ns.map some
      rw [ih h2]
    · cases h
theorem dats_app {K : PySem.W.Frag} {F : Hp} {a b : List V} {c d : List D} (h : Dats K F a c) (h2 : Dats K F b d) : Dats K F (a ++ b) (c ++ d) := h.app h2
theorem pl_any {X : Cx} {pos : Pos} : ∀ {es : List Expr}, (∀ e ∈ es, Pl X e) → (backTo pos (starEach es X.env)).any (·.1) = false
  | [], _ => rfl
  | e :: es, h => by
    have ih := pl_any (pos := pos) (es := es) fun e he => h e (List.mem_cons_of_mem _ he)
    rw [h e (List.mem_cons_self ..) es]
    show (false || (backTo pos (starEach es X.env)).any (·.1)) = false
    rw [ih]; rfl
theorem kwn_map {kws : List Keyword} {env : PySem.Env} {pos : Pos} : (backToKw pos (keywordEach kws env)).map (·.1) = (keywordEach kws env).map (·.1) := by
  unfold backToKw
  rw [List.map_map]
  rfl
theorem somes_all : ∀ {l : List (Option Str × Sem Value)} {ks : List Str}, l.map (·.1) = ks.map some → l.all (·.1.isSome) = true ∧ l.filterMap (·.1) = ks ∧ l.any (·.1.isNone) = false
  | [], ks, h => by cases ks with
    | nil => exact ⟨rfl, rfl, rfl⟩
    | cons k r => cases h
  | a :: l, ks, h => by cases ks with
    | nil => cases h
    | cons k r =>
      obtain ⟨a, b⟩ := a
      injection h with h1 h2
      cases h1
      obtain ⟨i1, i2, i3⟩ := somes_all h2
      exact ⟨by simpa using i1, by simpa using i2, by simpa using i3⟩
theorem kwNames_nil {kws : List Keyword} (h : kwNames kws = some []) : kws = [] := by
  cases kws with
  | nil => rfl
  | cons k r =>
    unfold kwNames at h
    split at h <;> cases h
/-! ### calls with no value, methods with keywords -/
section
variable {X : Cx} {CX : CXT} {k n : Nat} {f C : Addr} {fd : FuncData} {ps ks : List Str} {sp : Sp} {E : XK} {x m : Str} {p pos apos : Pos} {o e : Expr} {es : List Expr} {kws : List Keyword} {t tk : TA} {ta : TE} {gx : List Value → List Value → List Value} {gV : List V → List V → List V}
theorem pe_callN0 (F : FnOk X.prog X.w X.K X.mg X.base CX k f fd ps sp) (hr : Room k X.A) (hg : Gl X x) (hm : X.mg x = some (.ref f)) (hk : PySem.W.keepIn X.K (.ref f) = true) (hb : KBn X.K fd ps 0 ks gx gV) (hx : Passes CX X E)
    (hkw : PK X kws tk) (hall : (backToKw pos (keywordEach kws X.env)).all (·.1.isSome) = true) (hks : (backToKw pos (keywordEach kws X.env)).filterMap (·.1) = ks)
    (hdb : (x == ("__debug__" : Str)) = false) (hpl : ((backTo pos (starEach [] X.env)).any (·.1) || (backToKw pos (keywordEach kws X.env)).any (·.1.isNone)) = false) :
    PE X (.Call (.Name x p) [] kws pos) (tCallN 0 ks.length sp gV E tNil tk) := by
  refine ⟨fun pins s σ H Q I h => ?_⟩
  refine wpAny_Call_Name_kw (ld_glob I hg hm ?_ hdb)
  refine PySem.W.callWith_KW0 (h₀ := X.base) I.ok.mod.kin hk hall ?_ hpl
  refine thn (hkw.run pos pins s σ H _ I h) fun ws s2 ⟨zs, H2, I2, rz, l1, l2, q2⟩ => ⟨I2.kIn, ?_⟩
  rw [hks]
  exact run_fnN (us := []) (vs := []) F hr hb hx I2 .nil rz rfl l2 q2
/-- o.m(e, .., k = v, ..) of an instance of the class at C -/
def tMethN (K : PySem.W.Frag) (f : Addr) (m : Str) (n j : Nat) (sp : Sp) (gV : List V → List V → List V) (E : XK) (ta : TE) (t tk : TA) : TE := fun σ H Q => ta σ H fun x H1 => ∃ a C dx fs, x = .ref a ∧ H1 a = some (.ins C dx fs) ∧ Cls K C ∧ Meth K C m f ∧ fs.lookup m = none ∧
  t σ H1 fun vs H2 => tk σ H2 fun zs H3 => (x :: vs).length = n ∧ zs.length = j ∧ sp (gV (x :: vs) zs) H3 Q E
theorem pe_methN {pl : Sem Bool} (he : PE X o ta) (F : FnOk X.prog X.w X.K X.mg X.base CX k f fd ps sp) (hr : Room k X.A) (hb : KBn X.K fd ps n ks gx gV) (hx : Passes CX X E) (ha : PA X (e :: es) t) (hkw : PK X kws tk)
    (hall : (backToKw pos (keywordEach kws X.env)).all (·.1.isSome) = true) (hks : (backToKw pos (keywordEach kws X.env)).filterMap (·.1) = ks)
    (hst : starEach (e :: es) X.env = (false, eval e X.env) :: starEach es X.env) (hpl : ((backTo pos (starEach (e :: es) X.env)).any (·.1) || (backToKw pos (keywordEach kws X.env)).any (·.1.isNone)) = false)
    (ht : eval (.Call (.Attribute o m apos) (e :: es) kws pos) X.env = (do
      let ov ← eval o X.env
      standAt apos.atName
      let (f, first) ← holding [ov] (getMethod ov m pl)
      callWith pos f first (backTo pos (starEach (e :: es) X.env)) (backToKw pos (keywordEach kws X.env)))) :
    PE X (.Call (.Attribute o m apos) (e :: es) kws pos) (tMethN X.K f m n ks.length sp gV E ta t tk) := by
  refine ⟨fun pins s σ H Q I h => ?_⟩
  refine PySem.W.methodCall_KW (pl := pl) (thn (he.run pins s σ H _ I h) fun u s1 ⟨x, H1, I1, rx, a, C, dx, fs, ex, ea, c, hm, l, q⟩ => ?_) ht
  subst ex
  obtain rfl : u = Value.ref a := rx
  refine getmeth_ok I1 ea c hm l ?_
  refine PySem.W.callWith_KW (first := [.ref a]) (h₀ := X.base) I.ok.mod.kin hm.kp hall (thn (ha.run pos pins s1 σ H1 _ I1 q) fun us s2 ⟨vs, H2, I2, r, q2⟩ => ?_) hpl hst
  refine thn (hkw.run pos pins s2 σ H2 _ I2 q2) fun ws s3 ⟨zs, H3, I3, rz, l1, l2, q3⟩ => ⟨I3.kIn, ?_⟩
  rw [hks]
  exact run_fnN (us := .ref a :: us) (vs := .ref a :: vs) F hr hb hx I3 (.cons rfl r) rz l1 l2 q3
theorem meth_ht (hbase : attributeBase o m X.env (eval o X.env) = eval o X.env) (hline : (apos.endLine == pos.line) = true) (hl : es.length + kws.length < 20) (hpl : (backTo pos (starEach es X.env)).any (·.1) = false) (hall : (backToKw pos (keywordEach kws X.env)).all (·.1.isSome) = true) :
    eval (.Call (.Attribute o m apos) es kws pos) X.env = (do
      let ov ← eval o X.env
      standAt apos.atName
      let (f, first) ← holding [ov] (getMethod ov m (do return (← importBound o X.env).getD true))
      callWith pos f first (backTo pos (starEach es X.env)) (backToKw pos (keywordEach kws X.env))) := by
  have hf : methodCallForm (es.length + kws.length) (backTo pos (starEach es X.env)) (backToKw pos (keywordEach kws X.env)) = true := by
    unfold methodCallForm
    have h1 : (backTo pos (starEach es X.env)).all (fun x => !x.1) = true := by
      rw [List.all_eq_true]
      intro y hy
      have := List.any_eq_false.mp hpl y hy
      simpa using this
    rw [h1, hall]
    simp only [Bool.true_and, decide_eq_true_eq]
    split <;> omega
  rw [PySem.arm_eval_Call, hbase]
  unfold methodCall calleeOf methodCallPos
  rw [hf, hline]
  simp only [if_true, Bool.not_true, Bool.false_or, pure_bind]
end
end PV

set_option Elab.async false
set_option linter.all false
set_option maxRecDepth 100000
set_option maxHeartbeats 4000000
/-! PV, part W: classes' making; the calls are as callD tells. -/
namespace PV
open PySem PySem.Spec PyProof.Rows L2 LamX NdefX
variable [Tabl]
/-- self.f = e, one behind another -/
def setS (n : Nat) (B : Blk) : Stmt → Option (Str × Exp)
  | .Assign [.Attribute (.Name x _) f _] e _ => if rdSlot B x = some 0 then (tr n B e).map fun E => (f, E) else none
  | _ => none
def trI (n : Nat) (B : Blk) : List Stmt → Option (List (Str × Exp))
  | [] => some []
  | s :: r => match setS n B s, trI n B r with
    | some a, some l => some (a :: l)
    | _, _ => none
theorem setS_inv {n : Nat} {B : Blk} {s : Stmt} {p : Str × Exp} (h : setS n B s = some p) : ∃ x px pa e ps, s = .Assign [.Attribute (.Name x px) p.1 pa] e ps ∧ rdSlot B x = some 0 ∧ tr n B e = some p.2 := by
  unfold setS at h
  split at h
  · split at h
    · rename_i hr
      obtain ⟨E, hE, rfl⟩ := Option.map_eq_some_iff.mp h
      exact ⟨_, _, _, _, _, rfl, hr, hE⟩
    · cases h
  · cases h
structure CdOk (g : G5) (c : Cdf) (C f : Addr) (fd : FuncData) : Prop where
  fn : L2.Fun g.K "__init__" c.ql c.st f fd
  mg : g.mg c.nm = some (.ref C)
  ns : PySem.W.nsIn g.K mainGlobals c.nm = some (some (.ref C))
  mak : Mk g.K C f
  sc : FnScope c.N c.ps (defScope c.st)
  tr : ∃ n, trI n ⟨c.N, defScope c.st, defScope c.st, false⟩ (defBody c.st) = some c.sets
  cls : Cls g.K C
  na : ∀ p ∈ c.sets, NoAttr g.K C p.1
  nd : (c.sets.map (·.1)).Nodup
  len : c.sets.length < 1000
  bnd : Binds g.K fd c.ps []
theorem sw_att (e : Expr) (o : Expr) (f : Str) (t : Pos) (l : Nat) (env : PySem.Env) : swapsWith e (some (.Attribute o f t)) l env = pure false := by
  cases e <;> rfl
theorem putF_new {f : Str} {v : V} : ∀ {fs : List (Str × V)}, f ∉ fs.map (·.1) → putF f v fs = fs ++ [(f, v)]
  | [], _ => rfl
  | (a, b) :: r, h => by
    rw [List.map_cons, List.mem_cons, not_or] at h
    show (if a = f then _ else _) = _
    rw [if_neg fun e => h.1 e.symm, putF_new h.2]
    rfl
theorem own_imm {K : PySem.W.Frag} {F H : Hp} {j k : Nat} {v : V} {d : D} {fp : List Addr} (h : Own K F H j v d fp) (i : imm d = true) : Own K F H k v d fp := by
  cases h with
  | frz h => exact .sc i h
  | sc _ h => exact .sc i h
  | lst _ _ _ _ _ => cases i
  | dic _ _ _ _ _ _ => cases i
  | dicT _ _ _ _ _ _ => cases i
  | ins _ _ _ _ _ _ _ _ _ => cases i
structure Ini (K : PySem.W.Frag) (F0 H0 F H : Hp) (C x dx : Addr) (k : Nat) (fs : List (Str × V)) (ds : List (Str × D)) (fp : List Addr) : Prop where
  st : Stp F0 H0 F H
  hx : H x = some (.ins C dx fs)
  fx : F x = none
  hd : H dx = some (.own x)
  fd : F dx = none
  ks : fs.map (·.1) = ds.map (·.1)
  ow : Owns K F H k (fs.map (·.2)) (ds.map (·.2)) fp
  nx : x ∉ fp
  nd : dx ∉ fp
  fr : ∀ a ∈ fp, H0 a = none
section
variable {K : PySem.W.Frag} {F0 H0 F H F2 H2 : Hp} {C x dx : Addr} {k : Nat} {fs : List (Str × V)} {ds : List (Str × D)} {fp fq : List Addr}
theorem Ini.step {f : Str} {v : V} {d : D} (h : Ini K F0 H0 F H C x dx k fs ds fp) (x0 : H0 x = none) (ne : dx ≠ x) (st : Stp F H F2 H2) (ow : Own K F2 H2 k v d fq) (fr : ∀ a ∈ fq, H a = none) (hf : f ∉ fs.map (·.1)) :
    H2 x = some (.ins C dx fs) ∧ Ini K F0 H0 F2 (upd H2 x (.ins C dx (putF f v fs))) C x dx k (putF f v fs) (ds ++ [(f, d)]) (fp ++ fq) := by
  have hx2 := st.hh.get h.hx
  have hd2 := st.hh.get h.hd
  have fx2 : F2 x = none := st.lse h.fx (by rw [h.hx]; exact fun z => nomatch z)
  have fd2 : F2 dx = none := st.lse h.fd (by rw [h.hd]; exact fun z => nomatch z)
  have xq : x ∉ fq := fun z => by have := fr x z; rw [h.hx] at this; cases this
  have dq : dx ∉ fq := fun z => by have := fr dx z; rw [h.hd] at this; cases this
  have dj : ∀ a ∈ fp, a ∉ fq := fun a ha z => by
    obtain ⟨_, o, ho, _⟩ := h.ow.loose a ha
    rw [fr a z] at ho; cases ho
  have o1 := h.ow.stp st
  have o2 := o1.app (.cons ow .nil fun a _ z => nomatch z) (fun a ha z => dj a ha (by simpa using z))
  have xa : x ∉ fp ++ fq := fun z => (List.mem_append.mp z).elim h.nx xq
  refine ⟨hx2, (h.st.trans st).updD fx2 x0 hx2, upd_same, fx2, by rw [upd_ne ne]; exact hd2, fd2, ?_, ?_, xa, fun z => (List.mem_append.mp z).elim h.nd dq, fun a ha => ?_⟩
  · rw [putF_new hf, List.map_append, List.map_append, h.ks]; rfl
  · rw [putF_new hf, List.map_append, List.map_append]
    have e : fp ++ (fq ++ []) = fp ++ fq := by rw [List.append_nil]
    rw [e] at o2
    refine o2.keep (.refl _) fun a ha => ⟨upd_ne fun z => xa (by rw [← z]; exact ha), ?_⟩
    exact (o2.loose a ha).1
  · rcases List.mem_append.mp ha with z | z
    · exact h.fr a z
    · exact h.st.hh.free (fr a z)
end
theorem slotR_no {K : PySem.W.Frag} {F : Hp} {σ : L2.St} {ρ : Ro} {o : Option V} (h : SlotR K F σ ρ) : SlotR K F (o :: σ) (none :: ρ) := ⟨by rw [List.length_cons, List.length_cons, h.len], fun i d q => by
  cases i with
  | zero => cases q
  | succ i => exact h.at_ i d q⟩
theorem slotR_yes {K : PySem.W.Frag} {F : Hp} {σ : L2.St} {ρ : Ro} {v : V} {d : D} (hd : Dat K F v d) (h : SlotR K F σ ρ) : SlotR K F (some v :: σ) (some d :: ρ) := ⟨by rw [List.length_cons, List.length_cons, h.len], fun i d' q => by
  cases i with
  | zero => cases q; exact ⟨v, rfl, hd⟩
  | succ i => exact h.at_ i d' q⟩
theorem slotR_start {K : PySem.W.Frag} {F : Hp} {n : Nat} : ∀ {vs : List V} {ds : List D}, Dats K F vs ds → SlotR K F (vs.map some ++ List.replicate n none) (ds.map some ++ List.replicate n none)
  | _, _, .nil => by
    show SlotR K F (List.replicate n none) (List.replicate n none)
    induction n with
    | zero => exact ⟨rfl, fun i d q => by cases q⟩
    | succ n ih => exact slotR_no ih
  | _, _, .cons h t => slotR_yes h (slotR_start t)
theorem flds_cons {G : Glo} {ρ : Ro} {p : Str × Exp} {r : List (Str × Exp)} {l : List (Str × Nat × D)} (h : flds G ρ (p :: r) = some l) : ∃ k d l', l = (p.1, k, d) :: l' ∧ ev C0 G p.2 ρ = some (k, d) ∧ flds G ρ r = some l' := by
  obtain ⟨f, e⟩ := p
  unfold flds at h
  split at h
  · rename_i k d l' h1 h2
    cases h
    exact ⟨k, d, l', rfl, h1, h2⟩
  · cases h
theorem flds_keys {G : Glo} {ρ : Ro} : ∀ {r : List (Str × Exp)} {l : List (Str × Nat × D)}, flds G ρ r = some l → l.map (·.1) = r.map (·.1)
  | [], l, h => by cases h; rfl
  | p :: r, l, h => by
    obtain ⟨k, d, l', rfl, _, h2⟩ := flds_cons h
    rw [List.map_cons, List.map_cons, flds_keys h2]
theorem callSn {g : G5} {lvl : Nat} : CallS g lvl C0 := ⟨fun X o hc hr f args kws ks p pos σ F ds es k d hgl hok hpl hla hkw ha hk h => (by cases h), fun X o hc hr ob m args kws ks ap pos σ F c fs ds es k d h1 h2 h3 h4 h5 h6 h7 h8 h9 h10 h11 h => (by cases h)⟩
theorem if_opt {α : Type} {c : Prop} [Decidable c] {a : Option α} {b : α} (h : (if c then a else none) = some b) : c ∧ a = some b := by
  split at h
  · exact ⟨by assumption, h⟩
  · cases h
section
variable {g : G5} {G : Glo} {lvl n : Nat} {B : Blk} {X : Cx}
theorem ini_ok (hg : GloS g G) (hb : BltS g) (o : On g X) (xo : XOk X B lvl) {C x dx : Addr} {kk : Nat} {ρ : Ro} {F0 H0 : Hp} (x0 : H0 x = none) (ne : dx ≠ x) (cls : Cls X.K C) {σ : L2.St} (hσ : σ[0]? = some (some (.ref x))) {D0 : Ends} :
    ∀ {ss : List Stmt} {sets : List (Str × Exp)} {l : List (Str × Nat × D)} {F H : Hp} {fs : List (Str × V)} {ds : List (Str × D)} {fp : List Addr}, trI n B ss = some sets → flds G ρ sets = some l → (∀ p ∈ sets, NoAttr X.K C p.1) →
      (ds.map (·.1) ++ sets.map (·.1)).Nodup → ds.length + sets.length < 1000 → (∀ p ∈ l, imm p.2.2 = true ∨ p.2.1 = kk) → SlotR X.K F σ ρ → Ini X.K F0 H0 F H C x dx kk fs ds fp →
      (∀ F' H' fs' fp', Ini X.K F0 H0 F' H' C x dx kk fs' (ds ++ l.map fun p => (p.1, p.2.2)) fp' → D0.nx σ H') → WSs X ss D0 σ H
  | [], sets, l, F, H, fs, ds, fp, h, hl, _, _, _, _, sr, hi, q => by
    cases h
    cases hl
    refine wss_of pss_nil (q F H fs fp ?_)
    rw [List.map_nil, List.append_nil]
    exact hi
  | s :: ss, sets, l, F, H, fs, ds, fp, h, hl, hna, hnd, hlen, him, sr, hi, q => by
    unfold trI at h
    split at h
    · rename_i p r h1 h2
      cases h
      obtain ⟨y, px, pa, e, ps, rfl, hy, he⟩ := setS_inv h1
      obtain ⟨k, d, l', rfl, hev, hl'⟩ := flds_cons hl
      have nm := nm_of xo hy
      have hfs : p.1 ∉ fs.map (·.1) := by
        rw [hi.ks]
        intro z
        exact (List.nodup_append.mp hnd).2.2 _ z _ (List.mem_cons_self ..) rfl
      refine wss_of (pss_cons ps_W pss_W) ?_
      refine ws_of (ps_fld nm.pe pe_W (sw_att _ _ _ _ _ _)) ?_
      refine (snd_all callSn hg hb n B e p.2 he X o xo σ F ρ sr k d hev).1 F H (.refl _) hi.st.fh _ fun v F2 H2 fq st ow fr => ?_
      have ow' : Own X.K F2 H2 kk v d fq := by
        rcases him _ (List.mem_cons_self ..) with z | z
        · exact own_imm ow z
        · have z : k = kk := z
          rw [← z]; exact ow
      obtain ⟨hx2, hi2⟩ := hi.step x0 ne st ow' fr hfs
      refine ⟨.ref x, hσ, x, C, dx, fs, rfl, hx2, cls, hna _ (List.mem_cons_self ..), ?_, ?_⟩
      · have e1 : fs.length = ds.length := by
          have := congrArg List.length hi.ks
          rwa [List.length_map, List.length_map] at this
        rw [List.length_cons] at hlen
        omega
      · refine ini_ok hg hb o xo x0 ne cls hσ h2 hl' (fun p hp => hna p (List.mem_cons_of_mem _ hp)) ?_ ?_ (fun p hp => him p (List.mem_cons_of_mem _ hp)) (sr.mono st.ff) hi2 fun F' H' fs' fp' hi' => q F' H' fs' fp' ?_
        · rw [List.map_append, List.append_assoc]
          exact hnd
        · rw [List.length_append]
          rw [List.length_cons] at hlen
          show ds.length + 1 + r.length < 1000
          omega
        · rw [List.append_assoc] at hi'
          exact hi'
    · cases h
end
def spC (K : PySem.W.Frag) (G : Glo) (c : Cdf) (C : Addr) : Sp := fun vs H1 Q _ => ∃ x dx vs' F H ds k d, vs = .ref x :: vs' ∧ H1 = upd (upd H dx (.own x)) x (.ins C dx []) ∧ H x = none ∧ H dx = none ∧ dx ≠ x ∧ Fh F H ∧ Dats K F vs' ds ∧ ds.length + 1 = c.ps.length ∧ runC G c ds = some (k, d) ∧
  ∀ F' H' fq, Stp F H F' H' → Own K F' H' k (.ref x) d fq → (∀ a ∈ fq, H a = none) → Q .non H'
theorem cl_ok {g : G5} {G : Glo} {c : Cdf} {C f : Addr} {fd : FuncData} {k : Nat} (o : CdOk g c C f fd) (hg : GloS g G) (hb : BltS g) : FnOk g.P g.w g.K g.mg g.base L2.CX0 (k + 1) f fd c.ps (spC g.K G c C) := by
  obtain ⟨n, htr⟩ := o.tr
  refine o.fn.ok o.sc (fun vs H Q E ⟨x, dx, vs', F, H0, ds, k, d, e, _, _, _, _, _, h2, h3, _⟩ => by rw [e, List.length_cons, h2.length]; exact h3) fun cdv A outer s H1 vs Q E hr hsp => ?_
  obtain ⟨x, dx, vs', F, H, ds, j, d, rfl, rfl, hx, hdx, hne, fh, hd, hl, hrun, hQ⟩ := hsp
  refine ⟨WSs _ _, pss_W, ?_⟩
  have fx : F x = none := fh.toEx.free hx
  have fdx : F dx = none := fh.toEx.free hdx
  have s1 : Stp F H F (upd H dx (.own x)) := .loose fh hdx
  have hx1 : upd H dx (.own x) x = none := by rw [upd_ne fun z => hne z.symm]; exact hx
  have s2 : Stp F H F (upd (upd H dx (.own x)) x (.ins C dx [])) := s1.trans (.loose s1.fh hx1)
  have hon : On g (cxOf L2.CX0 g.P g.w g.K g.mg g.base c.N c.ql (defScope c.st) f cdv A outer s (upd (upd H dx (.own x)) x (.ins C dx [])) E).nox := ⟨rfl, rfl, rfl, rfl, rfl⟩
  have hxo : XOk (cxOf L2.CX0 g.P g.w g.K g.mg g.base c.N c.ql (defScope c.st) f cdv A outer s (upd (upd H dx (.own x)) x (.ins C dx [])) E).nox ⟨c.N, defScope c.st, defScope c.st, false⟩ k := ⟨rfl, o.sc.nd, rfl, rfl, hr, fun x hx => ⟨loc_of hx, .inl rfl⟩, fun h => by cases h⟩
  unfold runC at hrun
  split at hrun
  · rename_i l hfl
    obtain ⟨hall, e⟩ := if_some hrun
    cases e
    refine ini_ok (kk := topk l) (F0 := F) (H0 := H) (F := F) (fs := []) (ds := []) (fp := []) (ρ := ro0 c.N ds) hg hb hon hxo hx hne o.cls rfl htr hfl o.na o.nd (by simpa using o.len) (fun p hp => ?_) ?_ ⟨s2, upd_same, fx, by rw [upd_ne hne, upd_same], fdx, rfl, .nil, by simp, by simp, by simp⟩ fun F' H' fs' fp' hi => ?_
    · have := List.all_eq_true.mp hall p hp
      simpa using this
    · show SlotR g.K F (some (V.ref x) :: (vs'.map some ++ List.replicate (c.N.length - (vs'.length + 1)) none)) (none :: (ds.map some ++ List.replicate (c.N.length - (ds.length + 1)) none))
      rw [hd.length]
      exact slotR_no (slotR_start hd)
    · refine hQ F' H' (x :: dx :: fp') hi.st (.ins hi.hx hi.fx hi.hd hi.fd o.ns hi.ks hi.ow hi.nx hi.nd) fun a ha => ?_
      rcases List.mem_cons.mp ha with rfl | ha
      · exact hx
      · rcases List.mem_cons.mp ha with rfl | ha
        · exact hdx
        · exact hi.fr a ha
  · cases hrun
/-- the module as a whole -/
structure ModOk (g : G5) (T : Tbl) (G : Glo) : Prop where
  df : ∀ x t, T.df x = some t → ∃ f fd, DfOk g t f fd ∧ g.mg x = some (.ref f)
  cl : ∀ x c, T.cl x = some c → c.nm = x ∧ ∃ C f fd, CdOk g c C f fd
  me : ∀ c m t, T.me c m = some t → ∃ f fd, DfOk g t f fd ∧ ∀ C, PySem.W.nsIn g.K mainGlobals c = some (some (.ref C)) → Cls g.K C ∧ Meth g.K C m f
  glo : GloS g G
  blt : BltS g
theorem keys_none {m : Str} : ∀ {fs : List (Str × V)} {ds : List (Str × D)}, fs.map (·.1) = ds.map (·.1) → ds.lookup m = none → fs.lookup m = none
  | [], [], _, _ => rfl
  | [], _ :: _, h, _ => by simp at h
  | _ :: _, [], h, _ => by simp at h
  | (a, v) :: r, (b, d) :: s, h, q => by
    rw [List.map_cons, List.map_cons, List.cons.injEq] at h
    obtain ⟨h1, h2⟩ := h
    have h1 : a = b := h1
    subst h1
    rw [List.lookup_cons] at q ⊢
    split at q
    · cases q
    · exact keys_none h2 q
theorem fr_of {F H F2 H2 : Hp} (st : Stp F H F2 H2) {fq : List Addr} (fr : ∀ a ∈ fq, H2 a = none) : ∀ a ∈ fq, H a = none := fun a ha => st.hh.free (fr a ha)
theorem calls_ok {g : G5} {T : Tbl} {G : Glo} (m : ModOk g T G) (w : Nat) : ∀ k, CallS g k (callD T G w k)
  | 0 => callSn
  | lvl + 1 => by
    have ih := calls_ok m w lvl
    refine ⟨fun X o hc hr x args kws ks p pos σ F ds es k d hgl hok hpl hla hkw ha hk h => ?_, fun X o hc hr ob me args kws ks apos pos σ F c fs ds es k d hbase hline hne hlt hpl hla hkw hob ha hk hlk h => ?_⟩
    · have hdb := (ok_dbg hok).1
      have sa := fun ps => somes_all ((kwn_map (kws := kws) (env := X.env) (pos := ps)).trans (kwn_all X.env hkw))
      replace h : callT T G w lvl (callD T G w lvl) (.fn x) ds ks es = some (k, d) := h
      unfold callT at h
      dsimp only at h
      split at h
      · rename_i t ht
        split at h
        · rename_i y hy
          obtain ⟨⟨c1, c2, c3⟩, h⟩ := if_opt h
          obtain ⟨y1, y2, y3⟩ := wayB_inv hy
          obtain ⟨f, fd, od, hmg⟩ := m.df x t ht
          have FN := fn_ok (w := w) od ih m.glo m.blt c3
          obtain ⟨P, w', K, mg, base⟩ := g
          obtain ⟨o1, o2, o3, o4, o5⟩ := o
          dsimp only at o1 o2 o3 o4 o5 FN
          subst o1 o2 o3 o4 o5
          obtain ⟨gx, gV, kb, hD⟩ := od.way y y1
          rw [y2, y3] at kb hD
          have fin : ∀ {F1 H F2 H2 vs zs} {Q : VK}, Stp F1 H F2 H2 → Dats X.K F2 vs ds → Dats X.K F2 zs es → (∀ v F3 H3 fq, Stp F1 H F3 H3 → Own X.K F3 H3 k v d fq → (∀ a ∈ fq, H a = none) → Q v H3) → spD X.K (callD T G w lvl) G w t (gV vs zs) H2 Q L2.E0 := fun {F1 H F2 H2 vs zs Q} st dv dz q =>
            ⟨F2, _, k, d, st.fh, hD F2 vs zs ds es dv dz rfl c1, by unfold fillD; rw [List.length_map]; exact c2, h, fun v F3 H3 fq s2 ow fr => q v F3 H3 fq (st.trans s2) ow (fr_of st fr)⟩
          cases args with
          | nil =>
            have hds : ds = [] := List.eq_nil_of_length_eq_zero hla.symm
            subst hds
            intro F1 H e1 e2 Q q
            refine w_of (pe_callN0 FN hr hgl hmg od.fn.kp kb pass0 pk_W (sa pos).1 (sa pos).2.1 hdb (by rw [(sa pos).2.2]; rfl)) ?_
            show WK X kws σ H _
            exact hk F1 H e1 e2 _ fun zs F3 H3 s2 dz => ⟨rfl, by rw [dz.length]; exact c1, fin s2 .nil dz q⟩
          | cons e0 es0 =>
            intro F1 H e1 e2 Q q
            refine w_of (pe_callN FN hr hgl hmg od.fn.kp kb pass0 pa_W pk_W (sa pos).1 (sa pos).2.1 hdb (hpl e0 (List.mem_cons_self ..) es0) (by rw [pl_any hpl, (sa pos).2.2]; rfl)) ?_
            exact ha F1 H e1 e2 _ fun vs F2 H2 st dv => hk F2 H2 (e1.trans st.ff) st.fh _ fun zs F3 H3 s2 dz => ⟨dv.length, by rw [dz.length]; exact c1, fin (st.trans s2) (dv.mono s2.ff) dz q⟩
        · cases h
      · split at h
        · rename_i c hcl
          obtain ⟨⟨c1, c2, c3, c4, c5⟩, hrun⟩ := if_opt h
          clear h
          subst c2 c3
          have := kwNames_nil hkw
          subst this
          obtain ⟨hnm, C, f, fd, oc⟩ := m.cl x c hcl
          obtain ⟨lv, rfl⟩ : ∃ lv, lvl = lv + 1 := ⟨lvl - 1, by omega⟩
          have FN := cl_ok (k := lv) oc m.glo m.blt
          obtain ⟨P, w', K, mg, base⟩ := g
          obtain ⟨o1, o2, o3, o4, o5⟩ := o
          dsimp only at o1 o2 o3 o4 o5 FN
          subst o1 o2 o3 o4 o5
          cases args with
          | nil => exact absurd (List.eq_nil_of_length_eq_zero hla.symm) c1
          | cons e0 es0 =>
            intro F1 H e1 e2 Q q
            refine w_of (pe_make oc.mak FN hr hgl (by rw [← hnm]; exact oc.mg) oc.bnd .nil pass0 pa_W hdb (hpl e0 (List.mem_cons_self ..) es0) (pl_any fun e he => hpl e (List.mem_cons_of_mem _ he))) ?_
            exact ha F1 H e1 e2 _ fun vs F2 H2 st dv xx dx h1 h2 h3 => ⟨xx, dx, vs, F2, H2, ds, k, d, by rw [List.append_nil], rfl, h1, h2, h3, st.fh, dv, c5, hrun, fun F' H' fq s2 ow fr => ⟨rfl, q _ F' H' fq (st.trans s2) ow (fr_of st fr)⟩⟩
        · cases h
    · have sa := fun ps => somes_all ((kwn_map (kws := kws) (env := X.env) (pos := ps)).trans (kwn_all X.env hkw))
      replace h : callT T G w lvl (callD T G w lvl) (.me c me) (.ins c fs :: ds) ks es = some (k, d) := h
      unfold callT at h
      dsimp only at h
      split at h
      · rename_i t ht
        split at h
        · rename_i y hy
          obtain ⟨⟨c1, c2, c3⟩, h⟩ := if_opt h
          obtain ⟨y1, y2, y3⟩ := wayB_inv hy
          obtain ⟨f, fd, od, hcls⟩ := m.me c me t ht
          have FN := fn_ok (w := w) od ih m.glo m.blt c3
          obtain ⟨P, w', K, mg, base⟩ := g
          obtain ⟨o1, o2, o3, o4, o5⟩ := o
          dsimp only at o1 o2 o3 o4 o5 FN
          subst o1 o2 o3 o4 o5
          obtain ⟨gx, gV, kb, hD⟩ := od.way y y1
          rw [y2, y3] at kb hD
          cases args with
          | nil => exact absurd rfl hne
          | cons e0 es0 =>
            intro F1 H e1 e2 Q q
            refine w_of (pe_methN pe_W FN hr kb pass0 pa_W pk_W (sa pos).1 (sa pos).2.1 (hpl e0 (List.mem_cons_self ..) es0) (by rw [pl_any hpl, (sa pos).2.2]; rfl) (meth_ht hbase hline hlt (pl_any hpl) (sa pos).1)) ?_
            refine hob F1 H e1 e2 _ fun v F2 H2 st dv => ?_
            cases dv with
            | ins a1 a2 a3 a4 a5 =>
              obtain ⟨k1, k2⟩ := hcls _ a3
              refine ⟨_, _, _, _, rfl, st.fh.get a1, k1, k2, ?_, ?_⟩
              · exact keys_none a4 hlk
              · refine ha F2 H2 (e1.trans st.ff) st.fh _ fun vs F3 H3 s2 dv2 => hk F3 H3 ((e1.trans st.ff).trans s2.ff) s2.fh _ fun zs F4 H4 s3 dz => ?_
                have dself : Dat X.K F4 (.ref _) (.ins c fs) := (Dat.ins a1 a2 a3 a4 a5).mono (s2.ff.trans s3.ff)
                have dall := Dats.cons dself (dv2.mono s3.ff)
                have st' := st.trans (s2.trans s3)
                exact ⟨dall.length, by rw [dz.length]; exact c1, F4, _, k, d, s3.fh, hD F4 _ zs _ es dall dz rfl c1, by unfold fillD; rw [List.length_map]; exact c2, h, fun v F5 H5 fq s5 ow fr => q v F5 H5 fq (st'.trans s5) ow (fr_of st' fr)⟩
        · cases h
      · cases h
end PV

set_option Elab.async false
set_option linter.all false
set_option maxRecDepth 100000
set_option maxHeartbeats 4000000
/-! PV, part X: rules for the meaning of statements over data. -/
namespace PV
open PySem PySem.Spec PyProof.Rows L2
section
variable {c : Env → Option Bool} {f : Env → Option Out} {P : Option Out → Prop}
/-- a while loop: m falls -/
theorem whl_rule (J : Nat → Env → Prop) (h : ∀ m ρ, J m ρ → (c ρ = some false ∧ P (some (.nx ρ))) ∨ (c ρ = some true ∧ ((∃ ρ' m', m' < m ∧ J m' ρ' ∧ f ρ = some (.nx ρ')) ∨ (∃ k d, f ρ = some (.rt k d) ∧ P (some (.rt k d)))))) :
    ∀ n m ρ, m < n → J m ρ → P (whlL c f n ρ)
  | 0, m, ρ, hm, _ => absurd hm (Nat.not_lt_zero m)
  | n + 1, m, ρ, hm, hj => by
    unfold whlL
    rcases h m ρ hj with ⟨h1, h2⟩ | ⟨h1, ⟨ρ', m', h2, h3, h4⟩ | ⟨k, d, h2, h3⟩⟩
    · rw [h1]; exact h2
    · rw [h1]; dsimp only; rw [h4]; exact whl_rule J h n m' ρ' (by omega) h3
    · rw [h1]; dsimp only; rw [h2]; exact h3
theorem for_rule {tg : Tg} (J : List D → Env → Prop) (h0 : ∀ ρ, J [] ρ → P (some (.nx ρ))) (h : ∀ d ds ρ, J (d :: ds) ρ → ∃ ρ1, asgE tg d ρ = some ρ1 ∧ ((∃ ρ', f ρ1 = some (.nx ρ') ∧ J ds ρ') ∨ (∃ k d, f ρ1 = some (.rt k d) ∧ P (some (.rt k d))))) :
    ∀ ds ρ, J ds ρ → P (forL tg f ds ρ)
  | [], ρ, hj => h0 ρ hj
  | d :: ds, ρ, hj => by
    unfold forL
    obtain ⟨ρ1, h1, ⟨ρ', h2, h3⟩ | ⟨k, e, h2, h3⟩⟩ := h d ds ρ hj
    · rw [h1]; dsimp only; rw [h2]; exact for_rule J h0 h ds ρ' h3
    · rw [h1]; dsimp only; rw [h2]; exact h3
end
/-! ### steps of the meaning -/
section
variable {C : CT} {G : Glo} {w : Nat} {e : Exp} {ρ ρ' : Env} {k : Nat} {d : D} {a b : Sta} {i : Nat}
theorem evS_ns (h : ev C G e (expose (fv e) 0 ρ) = some (k, d)) (hn : nosh k d = true) : evS C G e ρ = some (k, d, ρ) := by
  unfold evS
  rw [h]
  dsimp only
  rw [if_pos hn]
theorem evS_fz (h : ev C G e (expose (fv e) 0 ρ) = some (k, d)) (hn : nosh k d = false) : evS C G e ρ = some (k, d, freeze (fv e) 0 ρ) := by
  unfold evS
  rw [h]
  dsimp only
  rw [if_neg (by rw [hn]; exact Bool.false_ne_true)]
theorem evB_of {c : Bool} (h : ev C G e (expose (fv e) 0 ρ) = some (k, .bl c)) : evB C G e ρ = some c := by
  unfold evB
  rw [h]
theorem ex_nx (h : PV.exec C G w a ρ = some (Out.nx ρ')) : PV.exec C G w (.cons a b) ρ = PV.exec C G w b ρ' := by
  show (match PV.exec C G w a ρ with | some (Out.nx ρ') => PV.exec C G w b ρ' | some o => some o | none => none) = _
  rw [h]
theorem ex_rt (h : PV.exec C G w a ρ = some (Out.rt k d)) : PV.exec C G w (.cons a b) ρ = some (Out.rt k d) := by
  show (match PV.exec C G w a ρ with | some (Out.nx ρ') => PV.exec C G w b ρ' | some o => some o | none => none) = _
  rw [h]
theorem ex_nil : PV.exec C G w .nil ρ = some (Out.nx ρ) := rfl
theorem ex_set (h : evS C G e ρ = some (k, d, ρ')) : PV.exec C G w (.set i e) ρ = some (Out.nx (ρ'.set i (some (k, d)))) := by
  show (match evS C G e ρ with | some (k, d, ρ') => some (Out.nx (ρ'.set i (some (k, d)))) | none => none) = _
  rw [h]
theorem ex_ret (h : evS C G e ρ = some (k, d, ρ')) : PV.exec C G w (.ret e) ρ = some (Out.rt k d) := by
  show (match evS C G e ρ with | some (k, d, _) => some (Out.rt k d) | none => none) = _
  rw [h]
theorem ex_true (h : evB C G e ρ = some true) : PV.exec C G w (.ite e a b) ρ = PV.exec C G w a ρ := by
  show (match evB C G e ρ with | some true => PV.exec C G w a ρ | some false => PV.exec C G w b ρ | none => none) = _
  rw [h]
theorem ex_false (h : evB C G e ρ = some false) : PV.exec C G w (.ite e a b) ρ = PV.exec C G w b ρ := by
  show (match evB C G e ρ with | some true => PV.exec C G w a ρ | some false => PV.exec C G w b ρ | none => none) = _
  rw [h]
theorem ex_app {xs0 xs : List D} (h0 : ρ[i]? = some (some (1, .lst xs0))) (h : evS C G e ρ = some (k, d, ρ')) (hx : ρ'[i]? = some (some (1, .lst xs))) (hl : xs.length < cap) : PV.exec C G w (.app i e) ρ = some (Out.nx (ρ'.set i (some (1, .lst (xs ++ [d]))))) := by
  show (match ρ[i]? with
    | some (some (1, .lst _)) => match evS C G e ρ with
      | some (_, d, ρ') => match ρ'[i]? with
        | some (some (1, .lst xs)) => if xs.length < cap then some (Out.nx (ρ'.set i (some (1, .lst (xs ++ [d]))))) else none
        | _ => none
      | none => none
    | _ => none) = _
  simp only [h0, h, hx, if_pos hl]
theorem ex_ext {xs0 xs ys : List D} (h0 : ρ[i]? = some (some (1, .lst xs0))) (h : evS C G e ρ = some (k, .lst ys, ρ')) (hx : ρ'[i]? = some (some (1, .lst xs))) (hl : xs.length + ys.length ≤ cap) : PV.exec C G w (.ext i e) ρ = some (Out.nx (ρ'.set i (some (1, .lst (xs ++ ys))))) := by
  show (match ρ[i]? with
    | some (some (1, .lst _)) => match evS C G e ρ with
      | some (_, .lst ys, ρ') => match ρ'[i]? with
        | some (some (1, .lst xs)) => if xs.length + ys.length ≤ cap then some (Out.nx (ρ'.set i (some (1, .lst (xs ++ ys))))) else none
        | _ => none
      | _ => none
    | _ => none) = _
  simp only [h0, h, hx, if_pos hl]
theorem ex_seti {ke : Exp} {k2 : Nat} {y d0 d' : D} {ρ2 : Env} (h : evS C G e ρ = some (k, d, ρ')) (hk : evS C G ke ρ' = some (k2, y, ρ2)) (hx : ρ2[i]? = some (some (1, d0))) (hp : putAt d0 y d = some d') : PV.exec C G w (.seti i ke e) ρ = some (Out.nx (ρ2.set i (some (1, d')))) := by
  show (match evS C G e ρ with
    | some (_, v, ρ1) => match evS C G ke ρ1 with
      | some (_, y, ρ2) => match ρ2[i]? with
        | some (some (1, d)) => match putAt d y v with
          | some d' => some (Out.nx (ρ2.set i (some (1, d'))))
          | none => none
        | _ => none
      | none => none
    | none => none) = _
  simp only [h, hk, hx, hp]
theorem ex_popd {kvs0 : List (Key × D)} {y d0 v d' : D} (h0 : ρ[i]? = some (some (1, .dic kvs0))) (h : evS C G e ρ = some (k, y, ρ')) (hx : ρ'[i]? = some (some (1, d0))) (hp : popAt d0 y = some (v, d')) : PV.exec C G w (.popd i e) ρ = some (Out.nx (ρ'.set i (some (1, d')))) := by
  show (match ρ[i]? with
    | some (some (1, .dic _)) => match evS C G e ρ with
      | some (_, y, ρ1) => match ρ1[i]? with
        | some (some (1, d)) => match popAt d y with
          | some (_, d') => some (Out.nx (ρ1.set i (some (1, d'))))
          | none => none
        | _ => none
      | none => none
    | _ => none) = _
  simp only [h0, h, hx, hp]
theorem ex_popx {j : Nat} {kvs0 : List (Key × D)} {y d0 v d' : D} (h0 : ρ[i]? = some (some (1, .dic kvs0))) (h : evS C G e ρ = some (k, y, ρ')) (hx : ρ'[i]? = some (some (1, d0))) (hp : popAt d0 y = some (v, d')) : PV.exec C G w (.popx j i e) ρ = some (Out.nx ((ρ'.set i (some (1, d'))).set j (some (0, v)))) := by
  show (match ρ[i]? with
    | some (some (1, .dic _)) => match evS C G e ρ with
      | some (_, y, ρ1) => match ρ1[i]? with
        | some (some (1, d)) => match popAt d y with
          | some (v, d') => some (Out.nx ((ρ1.set i (some (1, d'))).set j (some (0, v))))
          | none => none
        | _ => none
      | none => none
    | _ => none) = _
  simp only [h0, h, hx, hp]
theorem ex_for {tg : Tg} {it : Exp} {ds : List D} (hn : isDicE C G it (expose (fv it) 0 ρ) = false) (h : evI C G it (expose (fv it) 0 ρ) = some ds) : PV.exec C G w (.for_ tg it a) ρ = forL tg (fun r => PV.exec C G w a r) ds (freeze (fv it) 0 ρ) := by
  show (match evW C G it ρ with | some (ds, ρ') => forL tg (fun r => PV.exec C G w a r) ds ρ' | none => none) = _
  unfold evW
  rw [if_neg (by rw [hn]; exact Bool.false_ne_true), h]
theorem ex_par {j : Nat} {e2 : Exp} {k2 : Nat} {d2 : D} {ρ2 : Env} (h : evS C G e ρ = some (k, d, ρ')) (h2 : evS C G e2 ρ' = some (k2, d2, ρ2)) : PV.exec C G w (.par i j e e2) ρ = some (Out.nx ((ρ2.set i (some (0, d))).set j (some (0, d2)))) := by
  show (match evS C G e ρ with
    | some (_, d, ρ1) => match evS C G e2 ρ1 with
      | some (_, e, ρ2) => some (Out.nx ((ρ2.set i (some (0, d))).set j (some (0, e))))
      | none => none
    | none => none) = _
  rw [h]; dsimp only; rw [h2]
theorem ex_unp {is : List Nat} {ds : List D} (h : evS C G e ρ = some (k, .tup ds, ρ')) (hl : ds.length = is.length) : PV.exec C G w (.unp is e) ρ = some (Out.nx (asgEs is ds ρ')) := by
  show (match evS C G e ρ with
    | some (_, .tup ds, ρ') => if ds.length = is.length then some (Out.nx (asgEs is ds ρ')) else none
    | some (_, .lst ds, ρ') => if ds.length = is.length then some (Out.nx (asgEs is ds ρ')) else none
    | _ => none) = _
  rw [h]; dsimp only; rw [if_pos hl]
end
/-- a list comprehension -/
theorem lc_rule {α : Type} {tg : Tg} {t g : Ro → Option (Nat × D)} {ρ : Ro} (q : α → D) (c : α → Bool) (r : α → D) : ∀ {xs : List α}, (∀ x ∈ xs, ∃ ρ1, asg tg (q x) ρ = some ρ1 ∧ (∃ k, t ρ1 = some (k, .bl (c x))) ∧ (c x = true → ∃ k, g ρ1 = some (k, r x))) →
    lcL tg t g ρ (xs.map q) = some ((xs.filter c).map r)
  | [], _ => rfl
  | x :: xs, h => by
    obtain ⟨ρ1, h1, ⟨k, h2⟩, h3⟩ := h x (List.mem_cons_self ..)
    have ih := lc_rule q c r (tg := tg) (t := t) (g := g) (ρ := ρ) (xs := xs) fun y hy => h y (List.mem_cons_of_mem _ hy)
    show (match asg tg (q x) ρ with | none => none | some ρ1 => match t ρ1 with
      | some (_, .bl true) => match g ρ1 with
        | some (_, y) => match lcL tg t g ρ (xs.map q) with
          | some ys => some (y :: ys)
          | none => none
        | none => none
      | some (_, .bl false) => lcL tg t g ρ (xs.map q)
      | _ => none) = _
    rw [h1]
    dsimp only
    rw [h2, ih]
    cases hc : c x with
    | true =>
      obtain ⟨k', h4⟩ := h3 hc
      dsimp only
      rw [h4, List.filter_cons_of_pos hc]
      rfl
    | false =>
      dsimp only
      rw [List.filter_cons_of_neg (by rw [hc]; exact Bool.false_ne_true)]
theorem lc_all {α : Type} {tg : Tg} {g : Ro → Option (Nat × D)} {ρ : Ro} (q : α → D) (r : α → D) {xs : List α} (h : ∀ x ∈ xs, ∃ ρ1, asg tg (q x) ρ = some ρ1 ∧ ∃ k, g ρ1 = some (k, r x)) :
    lcL tg (fun _ => some (0, .bl true)) g ρ (xs.map q) = some (xs.map r) := by
  have := lc_rule (tg := tg) (t := fun _ => some (0, .bl true)) (g := g) (ρ := ρ) q (fun _ => true) r (xs := xs) fun x hx => by
    obtain ⟨ρ1, h1, h2⟩ := h x hx
    exact ⟨ρ1, h1, ⟨0, rfl⟩, fun _ => h2⟩
  rw [this, List.filter_eq_self.mpr fun _ _ => rfl]
theorem ev_lc {C : CT} {G : Glo} {own : List Nat} {tg : Tg} {it cond elt : Exp} {ρ : Ro} {ds ys : List D} (h1 : evI C G it ρ = some ds) (h2 : lcL tg (fun r => ev C G cond r) (fun r => ev C G elt r) (wipeR ρ own) ds = some ys) : ev C G (.lc own tg it cond elt) ρ = some (1, .lst ys) := by
  rw [ev, h1]
  dsimp only
  rw [h2]; rfl
theorem bools_map {α : Type} (f : α → Bool) : ∀ xs : List α, bools (xs.map fun x => .bl (f x)) = some (xs.map f)
  | [] => rfl
  | x :: xs => by
    show (bools (xs.map fun x => .bl (f x))).map (f x :: ·) = _
    rw [bools_map f xs]; rfl
end PV

set_option Elab.async false
set_option linter.all false
set_option maxRecDepth 100000
set_option maxHeartbeats 4000000
/-! k09, part A: the defs. -/
namespace K9
open PySem PySem.Spec PyProof.Rows L2 PV
def topS (i : Nat) : Stmt := PySem.Challenge.pw_handsdealt_k09_fewest_by_hand.main.body.getD i (.Pass ⟨0, 0, 0, 0⟩)
/-- is_number -/
def b_is_number : Sta :=
    (.cons (.ret (.and_ (.blt .isint (.var 0)) (.and_ (.nt (.blt .isbool (.var 0))) (.chain .le .le (.var 1) (.var 0) (.var 2)))))
    .nil)
def d_is_number : Dfn := ⟨"is_number", "is_number", topS 10, ["thing", "least", "most"], ["thing", "least", "most"], false, [⟨3, [], [.inl 0, .inl 1, .inl 2]⟩], b_is_number⟩
theorem t_is_number : trSs 60 ⟨d_is_number.N, defScope (topS 10), defScope (topS 10), false⟩ 60 (defBody (topS 10)) = some b_is_number := by decide +kernel
theorem s_is_number : FnScope d_is_number.N d_is_number.ps (defScope (topS 10)) := ⟨rfl, rfl, rfl, by decide +kernel, rfl, by decide +kernel, by decide +kernel⟩
/-- is_worth -/
def b_is_worth : Sta :=
    (.cons (.ret (.call "is_number" (.cons (.var 0) (.cons (.glob "LOW") (.cons (.glob "HIGH") .nil))) [] .nil))
    .nil)
def d_is_worth : Dfn := ⟨"is_worth", "is_worth", topS 11, ["thing"], ["thing"], false, [⟨1, [], [.inl 0]⟩], b_is_worth⟩
theorem t_is_worth : trSs 60 ⟨d_is_worth.N, defScope (topS 11), defScope (topS 11), false⟩ 60 (defBody (topS 11)) = some b_is_worth := by decide +kernel
theorem s_is_worth : FnScope d_is_worth.N d_is_worth.ps (defScope (topS 11)) := ⟨rfl, rfl, rfl, by decide +kernel, rfl, by decide +kernel, by decide +kernel⟩
/-- is_name -/
def b_is_name : Sta :=
    (.cons (.ret (.and_ (.blt .isstr (.var 0)) (.and_ (.chain .le .le (.int 1) (.blt .len (.var 0)) (.glob "LONGEST")) (.blt .all (.lc [1] (.one 1) (.itr (.var 0)) .yes (.cmp .isin (.var 1) (.glob "LETTERS")))))))
    .nil)
def d_is_name : Dfn := ⟨"is_name", "is_name", topS 12, ["name", "sign"], ["name"], false, [⟨1, [], [.inl 0]⟩], b_is_name⟩
theorem t_is_name : trSs 60 ⟨d_is_name.N, defScope (topS 12), defScope (topS 12), false⟩ 60 (defBody (topS 12)) = some b_is_name := by decide +kernel
theorem s_is_name : FnScope d_is_name.N d_is_name.ps (defScope (topS 12)) := ⟨rfl, rfl, rfl, by decide +kernel, rfl, by decide +kernel, by decide +kernel⟩
/-- are_unlike -/
def b_are_unlike : Sta :=
    (.cons (.ret (.and_ (.blt .all (.lc [1] (.one 1) (.itr (.var 0)) .yes (.call "is_name" (.cons (.var 1) .nil) [] .nil))) (.cmp .eq (.blt .lenset (.var 0)) (.blt .len (.var 0)))))
    .nil)
def d_are_unlike : Dfn := ⟨"are_unlike", "are_unlike", topS 13, ["names", "name"], ["names"], false, [⟨1, [], [.inl 0]⟩], b_are_unlike⟩
theorem t_are_unlike : trSs 60 ⟨d_are_unlike.N, defScope (topS 13), defScope (topS 13), false⟩ 60 (defBody (topS 13)) = some b_are_unlike := by decide +kernel
theorem s_are_unlike : FnScope d_are_unlike.N d_are_unlike.ps (defScope (topS 13)) := ⟨rfl, rfl, rfl, by decide +kernel, rfl, by decide +kernel, by decide +kernel⟩
/-- is_row -/
def b_is_row : Sta :=
    (.cons (.ite (.or_ (.nt (.blt .istuple (.var 0))) (.or_ (.cmp .eq (.var 0) (.tup .nil)) (.nt (.blt .isstr (.idx (.var 0) (.int 0)))))) (.cons (.ret (.bl false))
    .nil) .nil)
    (.cons (.star 1 2 (.var 0))
    (.cons (.ite (.cmp .isin (.var 1) (.glob "MAKERS")) (.cons (.ret (.and_ (.cmp .eq (.blt .len (.var 2)) (.int 3)) (.blt .all (.lc [3] (.one 3) (.itr (.var 2)) .yes (.call "is_name" (.cons (.var 3) .nil) [] .nil)))))
    .nil) .nil)
    (.cons (.ite (.cmp .isin (.var 1) (.tup (.cons (.str "copy") (.cons (.str "peek") (.cons (.str "poke") .nil))))) (.cons (.ret (.and_ (.cmp .eq (.blt .len (.var 2)) (.int 2)) (.blt .all (.lc [3] (.one 3) (.itr (.var 2)) .yes (.call "is_name" (.cons (.var 3) .nil) [] .nil)))))
    .nil) .nil)
    (.cons (.ite (.cmp .eq (.var 1) (.str "tell")) (.cons (.ret (.and_ (.cmp .eq (.blt .len (.var 2)) (.int 1)) (.call "is_name" (.cons (.idx (.var 2) (.int 0)) .nil) [] .nil)))
    .nil) .nil)
    (.cons (.ite (.cmp .eq (.var 1) (.str "set")) (.cons (.ret (.and_ (.cmp .eq (.blt .len (.var 2)) (.int 2)) (.and_ (.call "is_name" (.cons (.idx (.var 2) (.int 0)) .nil) [] .nil) (.call "is_worth" (.cons (.idx (.var 2) (.int 1)) .nil) [] .nil))))
    .nil) .nil)
    (.cons (.ite (.or_ (.cmp .ne (.var 1) (.str "ask")) (.or_ (.cmp .ne (.blt .len (.var 2)) (.int 3)) (.or_ (.nt (.call "is_name" (.cons (.idx (.var 2) (.int 0)) .nil) [] .nil)) (.or_ (.nt (.call "is_name" (.cons (.idx (.var 2) (.int 1)) .nil) [] .nil)) (.nt (.blt .islist (.idx (.var 2) (.int 2)))))))) (.cons (.ret (.bl false))
    .nil) .nil)
    (.cons (.ret (.and_ (.cmp .le (.blt .len (.idx (.var 2) (.int 2))) (.glob "TAKES")) (.blt .all (.lc [3] (.one 3) (.itn (.idx (.var 2) (.int 2))) .yes (.call "is_name" (.cons (.var 3) .nil) [] .nil)))))
    .nil))))))))
def d_is_row : Dfn := ⟨"is_row", "is_row", topS 15, ["row", "word", "rest", "one"], ["row"], false, [⟨1, [], [.inl 0]⟩], b_is_row⟩
theorem t_is_row : trSs 60 ⟨d_is_row.N, defScope (topS 15), defScope (topS 15), false⟩ 60 (defBody (topS 15)) = some b_is_row := by decide +kernel
theorem s_is_row : FnScope d_is_row.N d_is_row.ps (defScope (topS 15)) := ⟨rfl, rfl, rfl, by decide +kernel, rfl, by decide +kernel, by decide +kernel⟩
/-- needs_of -/
def b_needs_of : Sta :=
    (.cons (.star 1 2 (.var 0))
    (.cons (.ite (.cmp .eq (.var 1) (.str "ask")) (.cons (.ret (.blt .list (.idx (.var 2) (.int 2))))
    .nil) .nil)
    (.cons (.ite (.or_ (.cmp .isin (.var 1) (.glob "MAKERS")) (.cmp .isin (.var 1) (.tup (.cons (.str "copy") (.cons (.str "peek") .nil))))) (.cons (.ret (.slc (.var 2) (.itr (.int 1)) .nil))
    .nil) .nil)
    (.cons (.ite (.cmp .isin (.var 1) (.tup (.cons (.str "poke") (.cons (.str "tell") (.cons (.str "give") .nil))))) (.cons (.retv 2)
    .nil) .nil)
    (.cons (.ret (.ife (.cmp .eq (.var 1) (.str "if")) (.slc (.var 2) .nil (.itr (.int 1))) (.lst .nil)))
    .nil)))))
def d_needs_of : Dfn := ⟨"needs_of", "needs_of", topS 16, ["row", "word", "rest"], ["row"], false, [⟨1, [], [.inl 0]⟩], b_needs_of⟩
theorem t_needs_of : trSs 60 ⟨d_needs_of.N, defScope (topS 16), defScope (topS 16), false⟩ 60 (defBody (topS 16)) = some b_needs_of := by decide +kernel
theorem s_needs_of : FnScope d_needs_of.N d_needs_of.ps (defScope (topS 16)) := ⟨rfl, rfl, rfl, by decide +kernel, rfl, by decide +kernel, by decide +kernel⟩
/-- set_by -/
def b_set_by : Sta :=
    (.cons (.ret (.ife (.cmp .isin (.idx (.var 0) (.int 0)) (.tup (.cons (.str "poke") (.cons (.str "tell") (.cons (.str "go") (.cons (.str "if") (.cons (.str "give") .nil))))))) .non (.idx (.var 0) (.int 1))))
    .nil)
def d_set_by : Dfn := ⟨"set_by", "set_by", topS 17, ["row"], ["row"], false, [⟨1, [], [.inl 0]⟩], b_set_by⟩
theorem t_set_by : trSs 60 ⟨d_set_by.N, defScope (topS 17), defScope (topS 17), false⟩ 60 (defBody (topS 17)) = some b_set_by := by decide +kernel
theorem s_set_by : FnScope d_set_by.N d_set_by.ps (defScope (topS 17)) := ⟨rfl, rfl, rfl, by decide +kernel, rfl, by decide +kernel, by decide +kernel⟩
/-- stretches_of -/
def b_stretches_of : Sta :=
    (.cons (.set 3 (.dco [4] (.one 4) (.itr (.var 1)) .yes (.var 4) (.lst (.cons (.int 0) (.cons (.int 0) .nil)))))
    (.cons (.for_ (.many [5, 6]) (.enm (.var 0)) (.cons (.for_ (.one 4) (.itn (.call "needs_of" (.cons (.var 6) .nil) [] .nil)) (.cons (.upd2 3 (.var 4) 1 (.var 5))
    .nil))
    (.cons (.ite (.cmp .isnot (.call "set_by" (.cons (.var 6) .nil) [] .nil) .non) (.cons (.seto 3 (.call "set_by" (.cons (.var 6) .nil) [] .nil) (.lst (.cons (.bin .add (.var 5) (.int 1)) (.cons (.bin .add (.var 5) (.int 1)) .nil))))
    .nil) .nil)
    .nil)))
    (.cons (.for_ (.one 4) (.itr (.var 2)) (.cons (.upd2 3 (.var 4) 1 (.blt .len (.var 0)))
    .nil))
    (.cons (.retv 3)
    .nil))))
def d_stretches_of : Dfn := ⟨"stretches_of", "stretches_of", topS 20, ["rows", "takes", "last", "found", "one", "at", "row"], ["rows", "takes", "last"], false, [⟨3, [], [.inl 0, .inl 1, .inl 2]⟩], b_stretches_of⟩
theorem t_stretches_of : trSs 60 ⟨d_stretches_of.N, defScope (topS 20), defScope (topS 20), false⟩ 60 (defBody (topS 20)) = some b_stretches_of := by decide +kernel
theorem s_stretches_of : FnScope d_stretches_of.N d_stretches_of.ps (defScope (topS 20)) := ⟨rfl, rfl, rfl, by decide +kernel, rfl, by decide +kernel, by decide +kernel⟩
/-- standing -/
def b_standing : Sta :=
    (.cons (.ret (.lc [2, 3] (.many [2, 3]) (.items (.var 0)) (.chain .le .le (.idx (.var 3) (.int 0)) (.var 1) (.idx (.var 3) (.int 1))) (.var 2)))
    .nil)
def d_standing : Dfn := ⟨"standing", "standing", topS 21, ["stretches", "place", "one", "ends"], ["stretches", "place"], false, [⟨2, [], [.inl 0, .inl 1]⟩], b_standing⟩
theorem t_standing : trSs 60 ⟨d_standing.N, defScope (topS 21), defScope (topS 21), false⟩ 60 (defBody (topS 21)) = some b_standing := by decide +kernel
theorem s_standing : FnScope d_standing.N d_standing.ps (defScope (topS 21)) := ⟨rfl, rfl, rfl, by decide +kernel, rfl, by decide +kernel, by decide +kernel⟩
/-- Fewest.__init__ -/
def c_Fewest : Cdf := ⟨"Fewest", "Fewest.__init__", inClass (topS 22) 0, ["self", "many", "place", "dealt"], ["self", "many", "place", "dealt"], [], [("many", (.var 1)), ("place", (.var 2)), ("dealt", (.blt .dict (.var 3)))]⟩
theorem t_Fewest : trI 60 ⟨c_Fewest.N, defScope (inClass (topS 22) 0), defScope (inClass (topS 22) 0), false⟩ (defBody (inClass (topS 22) 0)) = some c_Fewest.sets := by decide +kernel
theorem s_Fewest : FnScope c_Fewest.N c_Fewest.ps (defScope (inClass (topS 22) 0)) := ⟨rfl, rfl, rfl, by decide +kernel, rfl, by decide +kernel, by decide +kernel⟩
/-- Fewest.shows -/
def b_Fewest_shows : Sta :=
    (.cons (.set 4 (.call "stretches_of" (.cons (.var 1) (.cons (.var 2) (.cons (.var 3) .nil))) [] .nil))
    (.cons (.ite (.or_ (.cmp .ne (.blt .sorted (.var 4)) (.blt .sorted (.fld (.var 0) "dealt"))) (.nt (.chain .le .le (.int 0) (.fld (.var 0) "place") (.blt .len (.var 1))))) (.cons (.ret (.bl false))
    .nil) .nil)
    (.cons (.ite (.nt (.blt .all (.lc [8] (.one 8) (.vals (.fld (.var 0) "dealt")) .yes (.chain .le .lt (.int 0) (.var 8) (.fld (.var 0) "many"))))) (.cons (.ret (.bl false))
    .nil) .nil)
    (.cons (.for_ (.one 5) (.rng (.bin .add (.blt .len (.var 1)) (.int 1))) (.cons (.set 6 (.lc [7] (.one 7) (.itn (.call "standing" (.cons (.var 4) (.cons (.var 5) .nil)) [] .nil)) .yes (.idx (.fld (.var 0) "dealt") (.var 7))))
    (.cons (.ite (.cmp .lt (.blt .lenset (.var 6)) (.blt .len (.var 6))) (.cons (.ret (.bl false))
    .nil) .nil)
    .nil)))
    (.cons (.ret (.cmp .eq (.blt .len (.call "standing" (.cons (.var 4) (.cons (.fld (.var 0) "place") .nil)) [] .nil)) (.fld (.var 0) "many")))
    .nil)))))
def d_Fewest_shows : Dfn := ⟨"shows", "Fewest.shows", inClass (topS 22) 1, ["self", "rows", "takes", "last", "stretches", "place", "some", "one", "hand"], ["self", "rows", "takes", "last"], false, [⟨2, ["takes", "last"], [.inl 0, .inl 1, .inl 2, .inl 3]⟩], b_Fewest_shows⟩
theorem t_Fewest_shows : trSs 60 ⟨d_Fewest_shows.N, defScope (inClass (topS 22) 1), defScope (inClass (topS 22) 1), false⟩ 60 (defBody (inClass (topS 22) 1)) = some b_Fewest_shows := by decide +kernel
theorem s_Fewest_shows : FnScope d_Fewest_shows.N d_Fewest_shows.ps (defScope (inClass (topS 22) 1)) := ⟨rfl, rfl, rfl, by decide +kernel, rfl, by decide +kernel, by decide +kernel⟩
/-- asked_straight -/
def b_asked_straight : Sta :=
    (.cons (.ite (.or_ (.nt (.blt .islist (.var 0))) (.or_ (.cmp .gt (.blt .len (.var 0)) (.glob "ROWS")) (.nt (.blt .all (.lc [5] (.one 5) (.itr (.var 0)) .yes (.call "is_row" (.cons (.var 5) .nil) [] .nil)))))) (.cons .bad
    .nil) .nil)
    (.cons (.for_ (.one 3) (.itn (.tup (.cons (.var 1) (.cons (.var 2) .nil)))) (.cons (.ite (.or_ (.nt (.blt .islt (.var 3))) (.or_ (.cmp .gt (.blt .len (.var 3)) (.glob "MANY")) (.nt (.call "are_unlike" (.cons (.blt .list (.var 3)) .nil) [] .nil)))) (.cons .bad
    .nil) .nil)
    .nil))
    (.cons (.set 4 (.dc [6] (.one 6) (.itr (.var 1)) .yes (.var 6) (.bl true)))
    (.cons (.for_ (.one 5) (.itr (.var 0)) (.cons (.ite (.or_ (.cmp .eq (.idx (.var 5) (.int 0)) (.str "ask")) (.or_ (.nt (.blt .all (.lc [6] (.one 6) (.itn (.call "needs_of" (.cons (.var 5) .nil) [] .nil)) .yes (.cmp .isin (.var 6) (.var 4))))) (.cmp .isin (.call "set_by" (.cons (.var 5) .nil) [] .nil) (.var 4)))) (.cons .bad
    .nil) .nil)
    (.cons (.ite (.cmp .isnot (.call "set_by" (.cons (.var 5) .nil) [] .nil) .non) (.cons (.seti 4 (.call "set_by" (.cons (.var 5) .nil) [] .nil) (.bl true))
    .nil) .nil)
    .nil)))
    (.cons (.ite (.nt (.blt .all (.lc [6] (.one 6) (.itr (.var 2)) .yes (.cmp .isin (.var 6) (.var 4))))) (.cons .bad
    .nil) .nil)
    .nil)))))
def d_asked_straight : Dfn := ⟨"asked_straight", "asked_straight", topS 26, ["rows", "takes", "last", "some", "known", "row", "one"], ["rows", "takes", "last"], false, [⟨3, [], [.inl 0, .inl 1, .inl 2]⟩], b_asked_straight⟩
theorem t_asked_straight : trSs 60 ⟨d_asked_straight.N, defScope (topS 26), defScope (topS 26), false⟩ 60 (defBody (topS 26)) = some b_asked_straight := by decide +kernel
theorem s_asked_straight : FnScope d_asked_straight.N d_asked_straight.ps (defScope (topS 26)) := ⟨rfl, rfl, rfl, by decide +kernel, rfl, by decide +kernel, by decide +kernel⟩
/-- fewest -/
def b_fewest : Sta :=
    (.cons (.exp (.call "asked_straight" (.cons (.var 0) (.cons (.var 1) (.cons (.var 2) .nil))) [] .nil))
    (.cons (.set 3 (.call "stretches_of" (.cons (.var 0) (.cons (.var 1) (.cons (.var 2) .nil))) [] .nil))
    (.cons (.set 4 (.lc [9] (.one 9) (.rng (.bin .add (.blt .len (.var 0)) (.int 1))) .yes (.blt .len (.call "standing" (.cons (.var 3) (.cons (.var 9) .nil)) [] .nil))))
    (.cons (.set 5 .dnew)
    (.cons (.for_ (.one 6) (.itn (.sortk [3] (.var 3) (.idx (.idx (.var 1) (.var 0)) (.int 0)))) (.cons (.set 7 (.idx (.idx (.var 3) (.var 6)) (.int 0)))
    (.cons (.set 8 (.lc [10] (.one 10) (.itn (.call "standing" (.cons (.var 3) (.cons (.var 7) .nil)) [] .nil)) (.cmp .isin (.var 10) (.var 5)) (.idx (.var 5) (.var 10))))
    (.cons (.seti 5 (.var 6) (.blt .min (.lc [11] (.one 11) (.rng (.blt .len (.var 3))) (.cmp .notin (.var 11) (.var 8)) (.var 11))))
    .nil))))
    (.cons (.ret (.call "Fewest" (.cons (.blt .max (.var 4)) (.cons (.index (.var 4) (.blt .max (.var 4))) (.cons (.var 5) .nil))) [] .nil))
    .nil))))))
def d_fewest : Dfn := ⟨"fewest", "fewest", topS 27, ["rows", "takes", "last", "stretches", "counts", "dealt", "name", "begin", "taken", "place", "one", "hand"], ["rows", "takes", "last"], true, [⟨1, ["takes", "last"], [.inl 0, .inl 1, .inl 2]⟩], b_fewest⟩
theorem t_fewest : trSs 60 ⟨d_fewest.N, defScope (topS 27), defScope (topS 27), true⟩ 60 (defBody (topS 27)) = some b_fewest := by decide +kernel
theorem s_fewest : FnScope d_fewest.N d_fewest.ps (defScope (topS 27)) := ⟨rfl, rfl, rfl, by decide +kernel, rfl, by decide +kernel, by decide +kernel⟩
/-- _law_cell_at -/
def b_law_cell_at : Sta :=
    (.cons (.ite (.cmp .lt (.var 1) (.blt .len (.var 0))) (.cons (.ret (.idx (.var 0) (.var 1)))
    .nil) .nil)
    (.cons (.ite (.cmp .eq (.var 0) (.lst .nil)) (.cons (.ret (.bin .mul (.var 1) (.int 48271)))
    .nil) .nil)
    (.cons (.ret (.bin .mod (.bin .mul (.bin .add (.idx (.var 0) (.bin .mod (.var 1) (.blt .len (.var 0)))) (.var 1)) (.int 48271)) (.int 2147483647)))
    .nil)))
def d_law_cell_at : Dfn := ⟨"_law_cell_at", "_law_cell_at", topS 29, ["_law_script", "_law_k"], ["_law_script", "_law_k"], false, [⟨2, [], [.inl 0, .inl 1]⟩], b_law_cell_at⟩
theorem t_law_cell_at : trSs 60 ⟨d_law_cell_at.N, defScope (topS 29), defScope (topS 29), false⟩ 60 (defBody (topS 29)) = some b_law_cell_at := by decide +kernel
theorem s_law_cell_at : FnScope d_law_cell_at.N d_law_cell_at.ps (defScope (topS 29)) := ⟨rfl, rfl, rfl, by decide +kernel, rfl, by decide +kernel, by decide +kernel⟩
/-- _law_numbers -/
def b_law_numbers : Sta :=
    (.cons (.set 2 (.var 0))
    (.cons (.ite (.cmp .lt (.var 0) (.bin .pow (.int 10) (.int 18))) (.cons (.set 2 (.bin .fdiv (.bin .pow (.bin .add (.bin .mul (.bin .mod (.var 0) (.int 2147483647)) (.int 48271)) (.int 12345)) (.int 5)) (.int 1013)))
    .nil) .nil)
    (.cons (.set 3 (.lst .nil))
    (.cons (.for_ (.one 4) (.itr (.var 1)) (.cons (.app 3 (.bin .mod (.var 2) (.var 4)))
    (.cons (.set 2 (.bin .fdiv (.var 2) (.var 4)))
    .nil)))
    (.cons (.retv 3)
    .nil)))))
def d_law_numbers : Dfn := ⟨"_law_numbers", "_law_numbers", topS 30, ["_law_cell", "_law_bounds", "_law_rest", "_law_found", "_law_bound"], ["_law_cell", "_law_bounds"], false, [⟨2, [], [.inl 0, .inl 1]⟩], b_law_numbers⟩
theorem t_law_numbers : trSs 60 ⟨d_law_numbers.N, defScope (topS 30), defScope (topS 30), false⟩ 60 (defBody (topS 30)) = some b_law_numbers := by decide +kernel
theorem s_law_numbers : FnScope d_law_numbers.N d_law_numbers.ps (defScope (topS 30)) := ⟨rfl, rfl, rfl, by decide +kernel, rfl, by decide +kernel, by decide +kernel⟩
/-- _law_straight -/
def b_law_straight : Sta :=
    (.cons (.set 1 (.bin .add (.lst (.cons (.str "a") (.cons (.str "plus") (.cons (.str "ask") (.cons (.str "go") (.cons (.str "b") (.cons (.str "set") (.cons (.str "give") (.cons (.str "c") .nil))))))))) (.lc [5] (.one 5) (.rng (.int 20)) .yes (.bin .add (.str "n") (.idx (.str "abcdefghijklmnopqrst") (.var 5))))))
    (.cons (.set 2 (.slc (.slc (.var 1) (.itr (.bin .mod (.call "_law_cell_at" (.cons (.var 0) (.cons (.int 0) .nil)) [] .nil) (.int 4))) .nil) .nil (.itr (.bin .mod (.call "_law_cell_at" (.cons (.var 0) (.cons (.int 1) .nil)) [] .nil) (.int 6)))))
    (.cons (.set 3 (.blt .list (.var 2)))
    (.cons (.set 4 (.lst .nil))
    (.cons (.for_ (.one 5) (.rng (.bin .mod (.call "_law_cell_at" (.cons (.var 0) (.cons (.int 2) .nil)) [] .nil) (.int 21))) (.cons (.set 6 (.call "_law_numbers" (.cons (.call "_law_cell_at" (.cons (.var 0) (.cons (.bin .add (.int 3) (.var 5)) .nil)) [] .nil) (.cons (.lst (.cons (.int 10) (.cons (.int 9973) (.cons (.int 9973) (.cons (.int 28) .nil))))) .nil)) [] .nil))
    (.cons (.set 9 (.idx (.lc [15] (.one 15) (.itr (.var 1)) (.cmp .notin (.var 15) (.var 3)) (.var 15)) (.bin .mod (.idx (.var 6) (.int 3)) (.mx2 (.int 1) (.bin .sub (.blt .len (.var 1)) (.blt .len (.var 3)))))))
    (.cons (.set 10 (.ife (.cmp .ne (.var 3) (.lst .nil)) (.slc (.bin .add (.rev (.var 3)) (.lst (.cons (.str "a") .nil))) .nil (.itr (.bin .add (.int 3) (.idx (.var 6) (.int 0))))) (.lst .nil)))
    (.cons (.set 11 (.ife (.cmp .ne (.var 10) (.lst .nil)) (.idx (.var 6) (.int 0)) (.int 0)))
    (.cons (.unp [13, 14] (.ife (.cmp .ne (.var 10) (.lst .nil)) (.lc [8] (.one 8) (.itn (.slc (.var 6) (.itr (.int 1)) (.itr (.int 3)))) .yes (.idx (.var 10) (.bin .mod (.var 8) (.blt .len (.var 10))))) (.lst (.cons (.str "a") (.cons (.str "a") .nil)))))
    (.cons (.ite (.and_ (.cmp .notin (.str "a") (.var 3)) (.cmp .isin (.str "a") (.tup (.cons (.var 13) (.cons (.var 14) .nil))))) (.cons (.set 11 (.int 0))
    .nil) .nil)
    (.cons (.set 12 (.lst (.cons (.tup (.cons (.str "set") (.cons (.var 9) (.cons (.var 5) .nil)))) (.cons (.tup (.cons (.str "copy") (.cons (.var 9) (.cons (.var 13) .nil)))) (.cons (.tup (.cons (.str "plus") (.cons (.var 9) (.cons (.var 13) (.cons (.var 14) .nil))))) (.cons (.tup (.cons (.str "less") (.cons (.var 9) (.cons (.var 13) (.cons (.var 14) .nil))))) (.cons (.tup (.cons (.str "times") (.cons (.var 9) (.cons (.var 13) (.cons (.var 14) .nil))))) .nil)))))))
    (.cons (.set 12 (.bin .add (.var 12) (.lst (.cons (.tup (.cons (.str "under") (.cons (.var 9) (.cons (.var 13) (.cons (.var 14) .nil))))) (.cons (.tup (.cons (.str "peek") (.cons (.var 9) (.cons (.var 13) .nil)))) (.cons (.tup (.cons (.str "poke") (.cons (.var 13) (.cons (.var 14) .nil)))) (.cons (.tup (.cons (.str "tell") (.cons (.var 13) .nil))) (.cons (.tup (.cons (.str "plus") (.cons (.var 9) (.cons (.var 14) (.cons (.var 13) .nil))))) .nil))))))))
    (.cons (.app 4 (.idx (.var 12) (.var 11)))
    (.cons (.ite (.cmp .notin (.var 11) (.tup (.cons (.int 7) (.cons (.int 8) .nil)))) (.cons (.app 3 (.var 9))
    .nil) .nil)
    .nil)))))))))))
    (.cons (.set 6 (.call "_law_numbers" (.cons (.call "_law_cell_at" (.cons (.var 0) (.cons (.int 24) .nil)) [] .nil) (.cons (.bin .mul (.lst (.cons (.int 9973) .nil)) (.int 8)) .nil)) [] .nil))
    (.cons (.set 7 (.lst .nil))
    (.cons (.for_ (.one 8) (.itn (.slc (.var 6) .nil (.itr (.bin .mod (.call "_law_cell_at" (.cons (.var 0) (.cons (.int 25) .nil)) [] .nil) (.int 7))))) (.cons (.ite (.and_ (.cmp .ne (.var 3) (.lst .nil)) (.cmp .notin (.idx (.var 3) (.bin .mod (.var 8) (.blt .len (.var 3)))) (.var 7))) (.cons (.app 7 (.idx (.var 3) (.bin .mod (.var 8) (.blt .len (.var 3)))))
    .nil) .nil)
    .nil))
    (.cons (.ret (.tup (.cons (.var 4) (.cons (.var 2) (.cons (.var 7) .nil)))))
    .nil)))))))))
def d_law_straight : Dfn := ⟨"_law_straight", "_law_straight", topS 31, ["_law_script", "_law_pool", "_law_taken", "_law_known", "_law_rows", "_law_k", "_law_digits", "_law_needed", "_law_digit", "_law_x", "_law_some", "_law_kind", "_law_words", "_law_y", "_law_z", "_law_name"], ["_law_script"], false, [⟨1, [], [.inl 0]⟩], b_law_straight⟩
theorem t_law_straight : trSs 60 ⟨d_law_straight.N, defScope (topS 31), defScope (topS 31), false⟩ 60 (defBody (topS 31)) = some b_law_straight := by decide +kernel
theorem s_law_straight : FnScope d_law_straight.N d_law_straight.ps (defScope (topS 31)) := ⟨rfl, rfl, rfl, by decide +kernel, rfl, by decide +kernel, by decide +kernel⟩
/-- _law_needs -/
def b_law_needs : Sta :=
    (.cons (.ite (.cmp .isin (.idx (.var 0) (.int 0)) (.tup (.cons (.str "plus") (.cons (.str "less") (.cons (.str "times") (.cons (.str "under") (.cons (.str "copy") (.cons (.str "peek") .nil)))))))) (.cons (.ret (.blt .list (.slc (.var 0) (.itr (.int 2)) .nil)))
    .nil) .nil)
    (.cons (.ret (.ife (.cmp .isin (.idx (.var 0) (.int 0)) (.tup (.cons (.str "poke") (.cons (.str "tell") .nil)))) (.blt .list (.slc (.var 0) (.itr (.int 1)) .nil)) (.lst .nil)))
    .nil))
def d_law_needs : Dfn := ⟨"_law_needs", "_law_needs", topS 32, ["_law_row"], ["_law_row"], false, [⟨1, [], [.inl 0]⟩], b_law_needs⟩
theorem t_law_needs : trSs 60 ⟨d_law_needs.N, defScope (topS 32), defScope (topS 32), false⟩ 60 (defBody (topS 32)) = some b_law_needs := by decide +kernel
theorem s_law_needs : FnScope d_law_needs.N d_law_needs.ps (defScope (topS 32)) := ⟨rfl, rfl, rfl, by decide +kernel, rfl, by decide +kernel, by decide +kernel⟩
/-- _law_sets -/
def b_law_sets : Sta :=
    (.cons (.ret (.ife (.cmp .notin (.idx (.var 0) (.int 0)) (.tup (.cons (.str "poke") (.cons (.str "tell") .nil)))) (.idx (.var 0) (.int 1)) .non))
    .nil)
def d_law_sets : Dfn := ⟨"_law_sets", "_law_sets", topS 33, ["_law_row"], ["_law_row"], false, [⟨1, [], [.inl 0]⟩], b_law_sets⟩
theorem t_law_sets : trSs 60 ⟨d_law_sets.N, defScope (topS 33), defScope (topS 33), false⟩ 60 (defBody (topS 33)) = some b_law_sets := by decide +kernel
theorem s_law_sets : FnScope d_law_sets.N d_law_sets.ps (defScope (topS 33)) := ⟨rfl, rfl, rfl, by decide +kernel, rfl, by decide +kernel, by decide +kernel⟩
/-- _law_at -/
def b_law_at : Sta :=
    (.cons (.set 4 (.bin .add (.blt .list (.var 1)) (.lc [6] (.one 6) (.itn (.slc (.var 0) .nil (.itr (.var 3)))) (.cmp .isnot (.call "_law_sets" (.cons (.var 6) .nil) [] .nil) .non) (.call "_law_sets" (.cons (.var 6) .nil) [] .nil))))
    (.cons (.set 5 (.blt .list (.var 2)))
    (.cons (.for_ (.one 6) (.itn (.slc (.var 0) (.itr (.var 3)) .nil)) (.cons (.set 5 (.bin .add (.var 5) (.call "_law_needs" (.cons (.var 6) .nil) [] .nil)))
    .nil))
    (.cons (.set 7 (.lc [9] (.one 9) (.itr (.var 4)) (.cmp .isin (.var 9) (.var 5)) (.var 9)))
    (.cons (.set 8 (.blt .list (.var 2)))
    (.cons (.for_ (.one 6) (.itr (.var 0)) (.cons (.set 8 (.bin .add (.var 8) (.call "_law_needs" (.cons (.var 6) .nil) [] .nil)))
    .nil))
    (.cons (.ite (.and_ (.cmp .gt (.var 3) (.int 0)) (.and_ (.cmp .isnot (.call "_law_sets" (.cons (.idx (.var 0) (.bin .sub (.var 3) (.int 1))) .nil) [] .nil) .non) (.cmp .notin (.call "_law_sets" (.cons (.idx (.var 0) (.bin .sub (.var 3) (.int 1))) .nil) [] .nil) (.var 8)))) (.cons (.app 7 (.call "_law_sets" (.cons (.idx (.var 0) (.bin .sub (.var 3) (.int 1))) .nil) [] .nil))
    .nil) .nil)
    (.cons (.ret (.bin .add (.var 7) (.lc [9] (.one 9) (.itr (.var 1)) (.and_ (.cmp .eq (.var 3) (.int 0)) (.cmp .notin (.var 9) (.var 8))) (.var 9))))
    .nil))))))))
def d_law_at : Dfn := ⟨"_law_at", "_law_at", topS 34, ["_law_rows", "_law_taken", "_law_needed", "_law_place", "_law_ahead", "_law_later", "_law_row", "_law_found", "_law_used", "_law_name"], ["_law_rows", "_law_taken", "_law_needed", "_law_place"], false, [⟨4, [], [.inl 0, .inl 1, .inl 2, .inl 3]⟩], b_law_at⟩
theorem t_law_at : trSs 60 ⟨d_law_at.N, defScope (topS 34), defScope (topS 34), false⟩ 60 (defBody (topS 34)) = some b_law_at := by decide +kernel
theorem s_law_at : FnScope d_law_at.N d_law_at.ps (defScope (topS 34)) := ⟨rfl, rfl, rfl, by decide +kernel, rfl, by decide +kernel, by decide +kernel⟩
/-- _law_due -/
def b_law_due : Sta :=
    (.cons (.set 6 (.blt .sorted (.bin .add (.blt .list (.var 1)) (.lc [10] (.one 10) (.itr (.var 0)) (.cmp .isnot (.call "_law_sets" (.cons (.var 10) .nil) [] .nil) .non) (.call "_law_sets" (.cons (.var 10) .nil) [] .nil)))))
    (.cons (.ite (.or_ (.cmp .ne (.blt .sorted (.var 5)) (.var 6)) (.nt (.chain .le .le (.int 0) (.var 4) (.blt .len (.var 0))))) (.cons (.ret (.bl false))
    .nil) .nil)
    (.cons (.ite (.nt (.blt .all (.lc [9] (.one 9) (.itr (.var 6)) .yes (.chain .le .lt (.int 0) (.idx (.var 5) (.var 9)) (.var 3))))) (.cons (.ret (.bl false))
    .nil) .nil)
    (.cons (.for_ (.one 7) (.rng (.bin .add (.blt .len (.var 0)) (.int 1))) (.cons (.set 8 (.lc [9] (.one 9) (.itn (.call "_law_at" (.cons (.var 0) (.cons (.var 1) (.cons (.var 2) (.cons (.var 7) .nil)))) [] .nil)) .yes (.idx (.var 5) (.var 9))))
    (.cons (.ite (.cmp .lt (.blt .lenset (.var 8)) (.blt .len (.var 8))) (.cons (.ret (.bl false))
    .nil) .nil)
    .nil)))
    (.cons (.ret (.cmp .eq (.blt .len (.call "_law_at" (.cons (.var 0) (.cons (.var 1) (.cons (.var 2) (.cons (.var 4) .nil)))) [] .nil)) (.var 3)))
    .nil)))))
def d_law_due : Dfn := ⟨"_law_due", "_law_due", topS 35, ["_law_rows", "_law_taken", "_law_needed", "_law_many", "_law_place", "_law_hands", "_law_names", "_law_at_here", "_law_some", "_law_name", "_law_row"], ["_law_rows", "_law_taken", "_law_needed", "_law_many", "_law_place", "_law_hands"], false, [⟨6, [], [.inl 0, .inl 1, .inl 2, .inl 3, .inl 4, .inl 5]⟩], b_law_due⟩
theorem t_law_due : trSs 60 ⟨d_law_due.N, defScope (topS 35), defScope (topS 35), false⟩ 60 (defBody (topS 35)) = some b_law_due := by decide +kernel
theorem s_law_due : FnScope d_law_due.N d_law_due.ps (defScope (topS 35)) := ⟨rfl, rfl, rfl, by decide +kernel, rfl, by decide +kernel, by decide +kernel⟩
/-- _law_bent -/
def b_law_bent : Sta :=
    (.cons (.set 2 (.blt .dict (.var 2)))
    (.cons (.set 4 (.blt .sorted (.var 2)))
    (.cons (.set 5 (.bin .mod (.var 3) (.int 7)))
    (.cons (.ite (.and_ (.cmp .eq (.var 5) (.int 0)) (.cmp .ne (.var 4) (.lst .nil))) (.cons (.seti 2 (.idx (.var 4) (.bin .mod (.bin .fdiv (.var 3) (.int 7)) (.blt .len (.var 4)))) (.bin .mod (.bin .fdiv (.var 3) (.int 200)) (.bin .add (.var 0) (.int 1))))
    .nil) (.cons (.ite (.and_ (.cmp .eq (.var 5) (.int 1)) (.cmp .ne (.var 4) (.lst .nil))) (.cons (.popd 2 (.idx (.var 4) (.bin .mod (.bin .fdiv (.var 3) (.int 7)) (.blt .len (.var 4)))))
    .nil) (.cons (.ite (.cmp .eq (.var 5) (.int 2)) (.cons (.seti 2 (.str "zz") (.int 0))
    .nil) (.cons (.ite (.cmp .eq (.var 5) (.int 3)) (.cons (.set 1 (.bin .sub (.bin .mod (.bin .fdiv (.var 3) (.int 7)) (.int 24)) (.int 1)))
    .nil) (.cons (.ite (.cmp .eq (.var 5) (.int 4)) (.cons (.set 0 (.bin .sub (.bin .add (.var 0) (.int 1)) (.bin .mul (.int 2) (.bin .mod (.bin .fdiv (.var 3) (.int 7)) (.int 2)))))
    .nil) (.cons (.ite (.and_ (.cmp .eq (.var 5) (.int 5)) (.cmp .ne (.var 4) (.lst .nil))) (.cons (.set 6 (.idx (.var 4) (.bin .mod (.bin .fdiv (.var 3) (.int 7)) (.blt .len (.var 4)))))
    (.cons (.set 7 (.idx (.var 4) (.bin .mod (.bin .fdiv (.var 3) (.int 200)) (.blt .len (.var 4)))))
    (.cons (.par 9 10 (.idx (.var 2) (.var 6)) (.idx (.var 2) (.var 7)))
    (.cons (.seti 2 (.var 6) (.var 10))
    (.cons (.seti 2 (.var 7) (.var 9))
    .nil))))) (.cons (.for_ (.one 8) (.itr (.var 4)) (.cons (.seti 2 (.var 8) (.bin .sub (.bin .sub (.var 0) (.int 1)) (.idx (.var 2) (.var 8))))
    .nil))
    .nil))
    .nil))
    .nil))
    .nil))
    .nil))
    .nil))
    (.cons (.ret (.tup (.cons (.var 0) (.cons (.var 1) (.cons (.var 2) .nil)))))
    .nil)))))
def d_law_bent : Dfn := ⟨"_law_bent", "_law_bent", topS 36, ["_law_many", "_law_place", "_law_hands", "_law_cell", "_law_names", "_law_kind", "_law_one", "_law_other", "_law_name", "_law_mine", "_law_theirs"], ["_law_many", "_law_place", "_law_hands", "_law_cell"], false, [⟨4, [], [.inl 0, .inl 1, .inl 2, .inl 3]⟩], b_law_bent⟩
theorem t_law_bent : trSs 60 ⟨d_law_bent.N, defScope (topS 36), defScope (topS 36), false⟩ 60 (defBody (topS 36)) = some b_law_bent := by decide +kernel
theorem s_law_bent : FnScope d_law_bent.N d_law_bent.ps (defScope (topS 36)) := ⟨rfl, rfl, rfl, by decide +kernel, rfl, by decide +kernel, by decide +kernel⟩
/-- law -/
def b_law : Sta :=
    (.cons (.unp [3, 4, 5] (.call "_law_straight" (.cons (.var 0) .nil) [] .nil))
    (.cons (.set 1 (.call "fewest" (.cons (.var 3) .nil) ["takes", "last"] (.cons (.var 4) (.cons (.var 5) .nil))))
    (.cons (.for_ (.one 2) (.rng (.int 7)) (.cons (.unp [10, 11, 12] (.call "_law_bent" (.cons (.fld (.var 1) "many") (.cons (.fld (.var 1) "place") (.cons (.fld (.var 1) "dealt") (.cons (.bin .add (.bin .mul (.int 7) (.call "_law_cell_at" (.cons (.var 0) (.cons (.bin .add (.int 26) (.var 2)) .nil)) [] .nil)) (.var 2)) .nil)))) [] .nil))
    (.cons (.set 6 (.blt .dict (.var 12)))
    (.cons (.set 7 (.call "Fewest" (.cons (.var 10) (.cons (.var 11) (.cons (.var 6) .nil))) [] .nil))
    (.cons (.clr 6)
    (.cons (.set 8 (.call "_law_due" (.cons (.var 3) (.cons (.var 4) (.cons (.var 5) (.cons (.var 10) (.cons (.var 11) (.cons (.var 12) .nil)))))) [] .nil))
    (.cons (.set 9 (.meth (.var 7) "shows" (.cons (.var 3) .nil) ["takes", "last"] (.cons (.var 4) (.cons (.var 5) .nil))))
    (.cons (.ite (.or_ (.nett (.tup (.cons (.fld (.var 7) "many") (.cons (.fld (.var 7) "place") (.cons (.fld (.var 7) "dealt") .nil)))) (.tup (.cons (.var 10) (.cons (.var 11) (.cons (.var 12) .nil))))) (.nt (.isC "Answer" (.var 7)))) (.cons (.ret (.bl false))
    .nil) .nil)
    (.cons (.ite (.or_ (.nt (.blt .isbool (.var 9))) (.cmp .ne (.var 9) (.var 8))) (.cons (.ret (.bl false))
    .nil) .nil)
    (.cons (.setf 7 "dealt" "zzz" 0)
    (.cons (.ite (.cmp .isnot (.meth (.var 7) "shows" (.cons (.var 3) .nil) ["takes", "last"] (.cons (.var 4) (.cons (.var 5) .nil))) (.bl false)) (.cons (.ret (.bl false))
    .nil) .nil)
    .nil)))))))))))
    (.cons (.ret (.bl true))
    .nil))))
def d_law : Dfn := ⟨"law", "law", topS 37, ["_law_script", "_law_told", "_law_k", "_law_rows", "_law_taken", "_law_needed", "_law_handed", "_law_answer", "_law_due_here", "_law_said", "_law_many", "_law_place", "_law_hands"], ["_law_script"], false, [⟨1, [], [.inl 0]⟩], b_law⟩
theorem t_law : trSs 60 ⟨d_law.N, defScope (topS 37), defScope (topS 37), false⟩ 60 (defBody (topS 37)) = some b_law := by decide +kernel
theorem s_law : FnScope d_law.N d_law.ps (defScope (topS 37)) := ⟨rfl, rfl, rfl, by decide +kernel, rfl, by decide +kernel, by decide +kernel⟩
end K9

set_option Elab.async false
set_option linter.all false
set_option maxRecDepth 100000
set_option maxHeartbeats 4000000
/-! k09, part B: the table. -/
namespace K9
open PySem PySem.Spec PyProof.Rows L2 PV
def defsL : List Dfn := [d_is_number, d_is_worth, d_is_name, d_are_unlike, d_is_row, d_needs_of, d_set_by, d_stretches_of, d_standing, d_asked_straight, d_fewest, d_law_cell_at, d_law_numbers, d_law_straight, d_law_needs, d_law_sets, d_law_at, d_law_due, d_law_bent, d_law]
def T : Tbl := ⟨fun x => defsL.find? fun t => decide (t.nm = x), fun x => if x = "Fewest" then some c_Fewest else none, fun c m => if c = "Fewest" ∧ m = "shows" then some d_Fewest_shows else none⟩
def gv (x : Str) : Option D := if x = "LETTERS" then some (.str "abcdefghijklmnopqrstuvwxyz") else if x = "LONGEST" then some (.int 8) else if x = "LOW" then some (.int (-32768)) else if x = "HIGH" then some (.int 32767) else if x = "TAKES" then some (.int 3) else if x = "MAKERS" then some (.rot [.str "plus", .str "less", .str "times", .str "under"]) else if x = "ROWS" then some (.int 20) else if x = "MANY" then some (.int 8) else none
def G : Glo := ⟨gv, fun c f => decide (c = "Fewest") && (decide (f = "many") || decide (f = "place") || decide (f = "dealt")), fun c x => if c = "Fewest" ∧ (x = "Fewest" ∨ x = "Answer") then some true else none⟩
def W : Nat := 1000
def CC (k : Nat) : CT := callD T G W k
end K9

set_option Elab.async false
set_option linter.all false
set_option maxRecDepth 100000
set_option maxHeartbeats 4000000
/-! k09, part C: rows; the small defs. -/
namespace K9
open PySem PySem.Spec PyProof.Rows L2 PV
/-- a row, as the law makes them -/
inductive Rw
  | set (x : Str) (k : Int) | copy (x y : Str) | plus (x y z : Str) | less (x y z : Str) | times (x y z : Str) | under (x y z : Str) | peek (x y : Str) | poke (y z : Str) | tell (y : Str)
def Rw.d : Rw → D
  | .set x k => .tup [.str "set", .str x, .int k]
  | .copy x y => .tup [.str "copy", .str x, .str y]
  | .plus x y z => .tup [.str "plus", .str x, .str y, .str z]
  | .less x y z => .tup [.str "less", .str x, .str y, .str z]
  | .times x y z => .tup [.str "times", .str x, .str y, .str z]
  | .under x y z => .tup [.str "under", .str x, .str y, .str z]
  | .peek x y => .tup [.str "peek", .str x, .str y]
  | .poke y z => .tup [.str "poke", .str y, .str z]
  | .tell y => .tup [.str "tell", .str y]
def Rw.needs : Rw → List Str
  | .set _ _ => []
  | .copy _ y => [y]
  | .plus _ y z => [y, z]
  | .less _ y z => [y, z]
  | .times _ y z => [y, z]
  | .under _ y z => [y, z]
  | .peek _ y => [y]
  | .poke y z => [y, z]
  | .tell y => [y]
def Rw.sets : Rw → Option Str
  | .set x _ => some x
  | .copy x _ => some x
  | .plus x _ _ => some x
  | .less x _ _ => some x
  | .times x _ _ => some x
  | .under x _ _ => some x
  | .peek x _ => some x
  | .poke _ _ => none
  | .tell _ => none
def txts (l : List Str) : D := .lst (l.map D.str)
def optS : Option Str → D
  | some x => .str x
  | none => .non
theorem set_by_ok (k : Nat) (r : Rw) : CC (k + 1) (.fn "set_by") [r.d] [] [] = some (0, optS r.sets) := by
  cases r <;> rfl
theorem needs_of_ok (k : Nat) (r : Rw) : CC (k + 1) (.fn "needs_of") [r.d] [] [] = some (1, txts r.needs) := by
  cases r <;> with_unfolding_all rfl
theorem law_sets_ok (k : Nat) (r : Rw) : CC (k + 1) (.fn "_law_sets") [r.d] [] [] = some (0, optS r.sets) := by
  cases r <;> rfl
theorem law_needs_ok (k : Nat) (r : Rw) : CC (k + 1) (.fn "_law_needs") [r.d] [] [] = some (1, txts r.needs) := by
  cases r <;> rfl
end K9

set_option Elab.async false
set_option linter.all false
set_option maxRecDepth 100000
set_option maxHeartbeats 4000000
/-! k09, part D: names, rows are right. -/
namespace K9
open PySem PySem.Spec PyProof.Rows L2 PV
def pool : List Str := ["a", "plus", "ask", "go", "b", "set", "give", "c", "na", "nb", "nc", "nd", "ne", "nf", "ng", "nh", "ni", "nj", "nk", "nl", "nm", "nn", "no", "np", "nq", "nr", "ns", "nt"]
def isT : Option (Nat × D) → Bool
  | some (0, .bl true) => true
  | _ => false
theorem isT_of {o : Option (Nat × D)} (h : isT o = true) : o = some (0, .bl true) := by
  unfold isT at h
  split at h
  · rfl
  · cases h
theorem is_name_all : (pool.all fun x => isT (CC 2 (.fn "is_name") [.str x] [] [])) = true := by decide +kernel
theorem is_name_ok {x : Str} (h : x ∈ pool) : CC 2 (.fn "is_name") [.str x] [] [] = some (0, .bl true) := isT_of (List.all_eq_true.mp is_name_all x h)
theorem is_name_ok1 {x : Str} (h : x ∈ pool) : CC 1 (.fn "is_name") [.str x] [] [] = some (0, .bl true) := by
  have : (pool.all fun x => isT (CC 1 (.fn "is_name") [.str x] [] [])) = true := by decide +kernel
  exact isT_of (List.all_eq_true.mp this x h)
/-- a row over the pool -/
def Rw.ok : Rw → Prop
  | .set x k => x ∈ pool ∧ 0 ≤ k ∧ k < 21
  | .copy x y => x ∈ pool ∧ y ∈ pool
  | .plus x y z => x ∈ pool ∧ y ∈ pool ∧ z ∈ pool
  | .less x y z => x ∈ pool ∧ y ∈ pool ∧ z ∈ pool
  | .times x y z => x ∈ pool ∧ y ∈ pool ∧ z ∈ pool
  | .under x y z => x ∈ pool ∧ y ∈ pool ∧ z ∈ pool
  | .peek x y => x ∈ pool ∧ y ∈ pool
  | .poke y z => y ∈ pool ∧ z ∈ pool
  | .tell y => y ∈ pool
end K9

set_option Elab.async false
set_option linter.all false
set_option maxRecDepth 100000
set_option maxHeartbeats 4000000
/-! k09, part E: rows are right (is_row). -/
namespace K9
open PySem PySem.Spec PyProof.Rows L2 PV
/-- all names of a list are names -/
theorem all_names (C : CT) {ρ : Ro} (xs : List Str) (h : ∀ x ∈ xs, C (.fn "is_name") [.str x] [] [] = some (0, .bl true)) (d0 d1 : Option D) :
    ev C G (.blt .all (.lc [3] (.one 3) (.itr (.var 2)) .yes (.call "is_name" (.cons (.var 3) .nil) [] .nil))) [d0, d1, some (txts xs), none] = some (0, .bl true) := by
  have l : ev C G (.lc [3] (.one 3) (.itr (.var 2)) .yes (.call "is_name" (.cons (.var 3) .nil) [] .nil)) [d0, d1, some (txts xs), none] = some (1, .lst (xs.map fun _ => .bl true)) := by
    refine ev_lc (ds := xs.map D.str) rfl ?_
    refine lc_all D.str (fun _ => .bl true) fun x hx => ⟨_, rfl, 0, ?_⟩
    simp only [ev, evs, wipeR, List.set, List.getElem?_cons_zero, List.getElem?_cons_succ, h x hx]
  have b := bools_map (fun _ : Str => true) xs
  rw [ev, l]
  simp only [bltD, b]
  simp
theorem eqd_tup_nil {d : D} {ds : List D} (h : SeqAt.shaped (toPy (.tup (d :: ds))) = true) : eqD (.tup (d :: ds)) (.tup []) = some false := by
  show (if SeqAt.shaped (toPy (.tup (d :: ds))) = true ∧ SeqAt.shaped (toPy (.tup [])) = true then some (PyData.eqv (toPy (.tup (d :: ds))) (toPy (.tup []))) else none) = _
  rw [if_pos ⟨h, by decide⟩]
  rfl
theorem or_f {C : CT} {ρ : Ro} {a b : Exp} (h1 : ev C G a ρ = some (0, .bl false)) (h2 : ev C G b ρ = some (0, .bl false)) : ev C G (.or_ a b) ρ = some (0, .bl false) := by
  rw [ev, h1]
  dsimp only
  rw [h2]
theorem head_ok (C : CT) {w : Str} {ds : List D} (h : SeqAt.shaped (toPy (.tup (.str w :: ds))) = true) :
    PV.exec C G W (.ite (.or_ (.nt (.blt .istuple (.var 0))) (.or_ (.cmp .eq (.var 0) (.tup .nil)) (.nt (.blt .isstr (.idx (.var 0) (.int 0)))))) (.cons (.ret (.bl false)) .nil) .nil) [some (0, .tup (.str w :: ds)), none, none, none] = some (.nx [some (0, .tup (.str w :: ds)), none, none, none]) := by
  refine (ex_false (evB_of (k := 0) (or_f ?_ (or_f ?_ ?_)))).trans rfl
  · with_unfolding_all rfl
  · show ev C G (.cmp .eq (.var 0) (.tup .nil)) [some (.tup (.str w :: ds)), none, none, none] = _
    have e1 : ev C G (.var 0) [some (.tup (.str w :: ds)), none, none, none] = some (0, .tup (.str w :: ds)) := rfl
    have e2 : ev C G (.tup .nil) [some (.tup (.str w :: ds)), none, none, none] = some (0, .tup []) := rfl
    rw [ev, e1, e2]
    simp only [cmpD, eqd_tup_nil h]
    rfl
  · show ev C G (.nt (.blt .isstr (.idx (.var 0) (.int 0)))) [some (.tup (.str w :: ds)), none, none, none] = _
    have e3 : ev C G (.idx (.var 0) (.int 0)) [some (.tup (.str w :: ds)), none, none, none] = some (0, .str w) := by
      have hx : ixN (ds.length + 1) 0 = some 0 := by
        unfold ixN
        simp
        try omega
      simp [ev, idxD, atI, hx]
    rw [ev, ev, e3]
    rfl
abbrev allE : Exp := .blt .all (.lc [3] (.one 3) (.itr (.var 2)) .yes (.call "is_name" (.cons (.var 3) .nil) [] .nil))
theorem and_ok {C : CT} {ρ : Ro} {a b : Exp} (h1 : ev C G a ρ = some (0, .bl true)) (h2 : ev C G b ρ = some (0, .bl true)) : ev C G (.and_ a b) ρ = some (0, .bl true) := by
  rw [ev, h1]
  dsimp only
  rw [h2]
section
variable (C : CT) (x y z : Str) (h1 : C (.fn "is_name") [.str x] [] [] = some (0, .bl true)) (h2 : C (.fn "is_name") [.str y] [] [] = some (0, .bl true)) (h3 : C (.fn "is_name") [.str z] [] [] = some (0, .bl true)) (l1 : PyData.canLay0 (toPy (.str x)) = true) (l2 : PyData.canLay0 (toPy (.str y)) = true) (l3 : PyData.canLay0 (toPy (.str z)) = true)
theorem shaped_strs (xs : List Str) (h : ∀ x ∈ xs, PyData.canLay0 (toPy (.str x)) = true) : SeqAt.shaped (toPy (.tup (xs.map D.str))) = true := by
  have : PyData.canLayAll0 (toPys (xs.map D.str)) = true ∧ PyData.depthAll (toPys (xs.map D.str)) ≤ 1 := by
    induction xs with
    | nil => exact ⟨rfl, Nat.zero_le _⟩
    | cons x xs ih =>
      obtain ⟨i1, i2⟩ := ih fun y hy => h y (List.mem_cons_of_mem _ hy)
      have h1 := h x (List.mem_cons_self ..)
      show (PyData.canLay0 (toPy (D.str x)) && PyData.canLayAll0 (toPys (xs.map D.str))) = true ∧ max (PyData.depth (toPy (D.str x))) (PyData.depthAll (toPys (xs.map D.str))) ≤ 1
      rw [h1, i1]
      have : PyData.depth (toPy (D.str x)) ≤ 1 := Nat.zero_le 1
      exact ⟨rfl, by omega⟩
  show (PyData.canLayAll0 (toPys (xs.map D.str)) && decide (PyData.depthAll (toPys (xs.map D.str)) + 1 ≤ 64)) = true
  rw [this.1, decide_eq_true (by omega)]; rfl
theorem lay_pool {x : Str} (h : x ∈ pool) : PyData.canLay0 (toPy (.str x)) = true := by
  have : (pool.all fun x => PyData.canLay0 (toPy (.str x))) = true := by decide +kernel
  exact List.all_eq_true.mp this x h
theorem run_rt {C : CT} {t : Dfn} {ds : List D} {k : Nat} {d : D} (h : PV.exec C G W t.body (env0 t.N ds) = some (.rt k d)) : runD C G W t ds = some (k, d) := by
  unfold runD
  rw [h]
include h1 h2 l1 l2 in
theorem row_two (w : Str) (hw : w = "copy" ∨ w = "peek" ∨ w = "poke") : runD C G W d_is_row [.tup [.str w, .str x, .str y]] = some (0, .bl true) := by
  have a := all_names C (ρ := []) [x, y] (fun z hz => by
      simp only [List.mem_cons, List.not_mem_nil, or_false] at hz
      rcases hz with rfl | rfl
      · exact h1
      · exact h2) (some (.tup [.str w, .str x, .str y])) (some (.str w))
  have c : ev C G (.cmp .eq (.blt .len (.var 2)) (.int 2)) [some (.tup [.str w, .str x, .str y]), some (.str w), some (txts [x, y]), none] = some (0, .bl true) := by with_unfolding_all rfl
  have r : PV.exec C G W (.ite (.cmp .isin (.var 1) (.tup (.cons (.str "copy") (.cons (.str "peek") (.cons (.str "poke") .nil))))) (.cons (.ret (.and_ (.cmp .eq (.blt .len (.var 2)) (.int 2)) allE)) .nil) .nil) [some (0, .tup [.str w, .str x, .str y]), some (0, .str w), some (1, .lst [.str x, .str y]), none] = some (.rt 0 (.bl true)) := by
    refine (ex_true (evB_of (k := 0) ?_)).trans (ex_rt (ex_ret (evS_ns (k := 0) (d := .bl true) (and_ok c a) rfl)))
    rcases hw with rfl | rfl | rfl <;> with_unfolding_all rfl
  refine run_rt ?_
  refine (ex_nx (ρ' := [some (0, .tup [.str w, .str x, .str y]), none, none, none]) ?_).trans ((ex_nx (ρ' := [some (0, .tup [.str w, .str x, .str y]), some (0, .str w), some (1, .lst [.str x, .str y]), none]) ?_).trans ((ex_nx (ρ' := [some (0, .tup [.str w, .str x, .str y]), some (0, .str w), some (1, .lst [.str x, .str y]), none]) ?_).trans (ex_rt r)))
  · refine head_ok C (shaped_strs [w, x, y] fun u hu => ?_)
    simp only [List.mem_cons, List.not_mem_nil, or_false] at hu
    rcases hu with rfl | rfl | rfl
    · rcases hw with rfl | rfl | rfl <;> decide +kernel
    · exact l1
    · exact l2
  · rcases hw with rfl | rfl | rfl <;> with_unfolding_all rfl
  · rcases hw with rfl | rfl | rfl <;> with_unfolding_all rfl
include h1 h2 h3 l1 l2 l3 in
theorem row_three (w : Str) (hw : w = "plus" ∨ w = "less" ∨ w = "times" ∨ w = "under") : runD C G W d_is_row [.tup [.str w, .str x, .str y, .str z]] = some (0, .bl true) := by
  have a := all_names C (ρ := []) [x, y, z] (fun z hz => by
      simp only [List.mem_cons, List.not_mem_nil, or_false] at hz
      rcases hz with rfl | rfl | rfl
      · exact h1
      · exact h2
      · exact h3) (some (.tup [.str w, .str x, .str y, .str z])) (some (.str w))
  have c : ev C G (.cmp .eq (.blt .len (.var 2)) (.int 3)) [some (.tup [.str w, .str x, .str y, .str z]), some (.str w), some (txts [x, y, z]), none] = some (0, .bl true) := by with_unfolding_all rfl
  have r : PV.exec C G W (.ite (.cmp .isin (.var 1) (.glob "MAKERS")) (.cons (.ret (.and_ (.cmp .eq (.blt .len (.var 2)) (.int 3)) allE)) .nil) .nil) [some (0, .tup [.str w, .str x, .str y, .str z]), some (0, .str w), some (1, .lst [.str x, .str y, .str z]), none] = some (.rt 0 (.bl true)) := by
    refine (ex_true (evB_of (k := 0) ?_)).trans (ex_rt (ex_ret (evS_ns (k := 0) (d := .bl true) (and_ok c a) rfl)))
    rcases hw with rfl | rfl | rfl | rfl <;> with_unfolding_all rfl
  refine run_rt ?_
  refine (ex_nx (ρ' := [some (0, .tup [.str w, .str x, .str y, .str z]), none, none, none]) ?_).trans ((ex_nx (ρ' := [some (0, .tup [.str w, .str x, .str y, .str z]), some (0, .str w), some (1, .lst [.str x, .str y, .str z]), none]) ?_).trans (ex_rt r))
  · refine head_ok C (shaped_strs [w, x, y, z] fun u hu => ?_)
    simp only [List.mem_cons, List.not_mem_nil, or_false] at hu
    rcases hu with rfl | rfl | rfl | rfl
    · rcases hw with rfl | rfl | rfl | rfl <;> decide +kernel
    · exact l1
    · exact l2
    · exact l3
  · rcases hw with rfl | rfl | rfl | rfl <;> with_unfolding_all rfl
end
end K9

set_option Elab.async false
set_option linter.all false
set_option maxRecDepth 100000
set_option maxHeartbeats 4000000
/-! k09, part F: is_row, whole. -/
namespace K9
open PySem PySem.Spec PyProof.Rows L2 PV
section
variable (C : CT) (x : Str) (h1 : C (.fn "is_name") [.str x] [] [] = some (0, .bl true)) (l1 : PyData.canLay0 (toPy (.str x)) = true)
include h1 l1 in
theorem row_tell : runD C G W d_is_row [.tup [.str "tell", .str x]] = some (0, .bl true) := by
  have c : ev C G (.cmp .eq (.blt .len (.var 2)) (.int 1)) [some (.tup [.str "tell", .str x]), some (.str "tell"), some (.lst [.str x]), none] = some (0, .bl true) := by with_unfolding_all rfl
  have i0 : ev C G (.idx (.var 2) (.int 0)) [some (.tup [.str "tell", .str x]), some (.str "tell"), some (.lst [.str x]), none] = some (0, .str x) := by with_unfolding_all rfl
  have a : ev C G (.call "is_name" (.cons (.idx (.var 2) (.int 0)) .nil) [] .nil) [some (.tup [.str "tell", .str x]), some (.str "tell"), some (.lst [.str x]), none] = some (0, .bl true) := by
    simp only [ev, evs] at i0 ⊢
    simp only [i0, h1]
  have r : PV.exec C G W (.ite (.cmp .eq (.var 1) (.str "tell")) (.cons (.ret (.and_ (.cmp .eq (.blt .len (.var 2)) (.int 1)) (.call "is_name" (.cons (.idx (.var 2) (.int 0)) .nil) [] .nil))) .nil) .nil) [some (0, .tup [.str "tell", .str x]), some (0, .str "tell"), some (1, .lst [.str x]), none] = some (.rt 0 (.bl true)) := by
    refine (ex_true (evB_of (k := 0) ?_)).trans (ex_rt (ex_ret (evS_ns (k := 0) (d := .bl true) (and_ok c a) rfl)))
    with_unfolding_all rfl
  refine run_rt ?_
  refine (ex_nx (ρ' := [some (0, .tup [.str "tell", .str x]), none, none, none]) (head_ok C (shaped_strs ["tell", x] fun u hu => ?_))).trans ((ex_nx (ρ' := [some (0, .tup [.str "tell", .str x]), some (0, .str "tell"), some (1, .lst [.str x]), none]) (by with_unfolding_all rfl)).trans ((ex_nx (ρ' := [some (0, .tup [.str "tell", .str x]), some (0, .str "tell"), some (1, .lst [.str x]), none]) (by with_unfolding_all rfl)).trans ((ex_nx (ρ' := [some (0, .tup [.str "tell", .str x]), some (0, .str "tell"), some (1, .lst [.str x]), none]) (by with_unfolding_all rfl)).trans (ex_rt r))))
  simp only [List.mem_cons, List.not_mem_nil, or_false] at hu
  rcases hu with rfl | rfl
  · decide +kernel
  · exact l1
variable (k : Int) (h2 : C (.fn "is_worth") [.int k] [] [] = some (0, .bl true))
include h1 l1 h2 in
theorem row_set : runD C G W d_is_row [.tup [.str "set", .str x, .int k]] = some (0, .bl true) := by
  have c : ev C G (.cmp .eq (.blt .len (.var 2)) (.int 2)) [some (.tup [.str "set", .str x, .int k]), some (.str "set"), some (.lst [.str x, .int k]), none] = some (0, .bl true) := by with_unfolding_all rfl
  have i0 : ev C G (.idx (.var 2) (.int 0)) [some (.tup [.str "set", .str x, .int k]), some (.str "set"), some (.lst [.str x, .int k]), none] = some (0, .str x) := by with_unfolding_all rfl
  have i1 : ev C G (.idx (.var 2) (.int 1)) [some (.tup [.str "set", .str x, .int k]), some (.str "set"), some (.lst [.str x, .int k]), none] = some (0, .int k) := by with_unfolding_all rfl
  have a : ev C G (.call "is_name" (.cons (.idx (.var 2) (.int 0)) .nil) [] .nil) [some (.tup [.str "set", .str x, .int k]), some (.str "set"), some (.lst [.str x, .int k]), none] = some (0, .bl true) := by
    simp only [ev, evs] at i0 ⊢
    simp only [i0, h1]
  have b : ev C G (.call "is_worth" (.cons (.idx (.var 2) (.int 1)) .nil) [] .nil) [some (.tup [.str "set", .str x, .int k]), some (.str "set"), some (.lst [.str x, .int k]), none] = some (0, .bl true) := by
    simp only [ev, evs] at i1 ⊢
    simp only [i1, h2]
  have r : PV.exec C G W (.ite (.cmp .eq (.var 1) (.str "set")) (.cons (.ret (.and_ (.cmp .eq (.blt .len (.var 2)) (.int 2)) (.and_ (.call "is_name" (.cons (.idx (.var 2) (.int 0)) .nil) [] .nil) (.call "is_worth" (.cons (.idx (.var 2) (.int 1)) .nil) [] .nil)))) .nil) .nil) [some (0, .tup [.str "set", .str x, .int k]), some (0, .str "set"), some (1, .lst [.str x, .int k]), none] = some (.rt 0 (.bl true)) := by
    refine (ex_true (evB_of (k := 0) ?_)).trans (ex_rt (ex_ret (evS_ns (k := 0) (d := .bl true) (and_ok c (and_ok a b)) rfl)))
    with_unfolding_all rfl
  have sh : SeqAt.shaped (toPy (.tup [.str "set", .str x, .int k])) = true := by
    show ((PyData.canLay0 (toPy (.str "set")) && (PyData.canLay0 (toPy (.str x)) && (true && true))) && decide (_ ≤ 64)) = true
    have l0 : PyData.canLay0 (toPy (.str "set")) = true := by decide +kernel
    rw [l1, l0]
    with_unfolding_all rfl
  refine run_rt ?_
  refine (ex_nx (ρ' := [some (0, .tup [.str "set", .str x, .int k]), none, none, none]) (head_ok C sh)).trans ((ex_nx (ρ' := [some (0, .tup [.str "set", .str x, .int k]), some (0, .str "set"), some (1, .lst [.str x, .int k]), none]) (by with_unfolding_all rfl)).trans ((ex_nx (ρ' := [some (0, .tup [.str "set", .str x, .int k]), some (0, .str "set"), some (1, .lst [.str x, .int k]), none]) (by with_unfolding_all rfl)).trans ((ex_nx (ρ' := [some (0, .tup [.str "set", .str x, .int k]), some (0, .str "set"), some (1, .lst [.str x, .int k]), none]) (by with_unfolding_all rfl)).trans ((ex_nx (ρ' := [some (0, .tup [.str "set", .str x, .int k]), some (0, .str "set"), some (1, .lst [.str x, .int k]), none]) (by with_unfolding_all rfl)).trans (ex_rt r)))))
end
theorem is_worth_ok {k : Int} (h : 0 ≤ k ∧ k < 21) : CC 2 (.fn "is_worth") [.int k] [] [] = some (0, .bl true) := by
  obtain ⟨n, rfl⟩ := Int.eq_ofNat_of_zero_le h.1
  have h2 : n < 21 := by omega
  have : ((List.range 21).all fun n => isT (CC 2 (.fn "is_worth") [.int (n : Nat)] [] [])) = true := by decide +kernel
  exact isT_of (List.all_eq_true.mp this n (List.mem_range.mpr h2))
theorem is_row_ok {r : Rw} (h : r.ok) : CC 3 (.fn "is_row") [r.d] [] [] = some (0, .bl true) := by
  cases r with
  | set x k => exact row_set (CC 2) x (is_name_ok h.1) (lay_pool h.1) k (is_worth_ok h.2)
  | copy x y => exact row_two (CC 2) x y (is_name_ok h.1) (is_name_ok h.2) (lay_pool h.1) (lay_pool h.2) _ (.inl rfl)
  | plus x y z => exact row_three (CC 2) x y z (is_name_ok h.1) (is_name_ok h.2.1) (is_name_ok h.2.2) (lay_pool h.1) (lay_pool h.2.1) (lay_pool h.2.2) _ (.inl rfl)
  | less x y z => exact row_three (CC 2) x y z (is_name_ok h.1) (is_name_ok h.2.1) (is_name_ok h.2.2) (lay_pool h.1) (lay_pool h.2.1) (lay_pool h.2.2) _ (.inr (.inl rfl))
  | times x y z => exact row_three (CC 2) x y z (is_name_ok h.1) (is_name_ok h.2.1) (is_name_ok h.2.2) (lay_pool h.1) (lay_pool h.2.1) (lay_pool h.2.2) _ (.inr (.inr (.inl rfl)))
  | under x y z => exact row_three (CC 2) x y z (is_name_ok h.1) (is_name_ok h.2.1) (is_name_ok h.2.2) (lay_pool h.1) (lay_pool h.2.1) (lay_pool h.2.2) _ (.inr (.inr (.inr rfl)))
  | peek x y => exact row_two (CC 2) x y (is_name_ok h.1) (is_name_ok h.2) (lay_pool h.1) (lay_pool h.2) _ (.inr (.inl rfl))
  | poke x y => exact row_two (CC 2) x y (is_name_ok h.1) (is_name_ok h.2) (lay_pool h.1) (lay_pool h.2) _ (.inr (.inr rfl))
  | tell x => exact row_tell (CC 2) x (is_name_ok h) (lay_pool h)
end K9

set_option Elab.async false
set_option linter.all false
set_option maxRecDepth 100000
set_option maxHeartbeats 4000000
/-! k09, part G: stretches and who stands. -/
namespace K9
open PySem PySem.Spec PyProof.Rows L2 PV
abbrev Sts := List (Str × (Int × Int))
def sv (p : Int × Int) : D := .lst [.int p.1, .int p.2]
def sts (S : Sts) : D := .dic (S.map fun p => (.inr p.1, sv p.2))
def stands (S : Sts) (pl : Int) : List Str := (S.filter fun p => decide (p.2.1 ≤ pl) && decide (pl ≤ p.2.2)).map (·.1)
theorem nosh_txts : ∀ (xs : List Str), nosh 1 (txts xs) = true := fun xs => by
  show (xs.map D.str).all (nosh 0) = true
  rw [List.all_map]
  exact List.all_eq_true.mpr fun _ _ => rfl
theorem items_sts (S : Sts) : itemsD (S.map fun p => ((.inr p.1 : Key), sv p.2)) = S.map fun p => D.tup [.str p.1, sv p.2] := by
  unfold itemsD
  rw [List.map_map]
  rfl
theorem standing_ok (k : Nat) (S : Sts) (pl : Int) : CC (k + 1) (.fn "standing") [sts S, .int pl] [] [] = some (1, txts (stands S pl)) := by
  show runD (CC k) G W d_standing [sts S, .int pl] = _
  refine run_rt (ex_rt (ex_ret (evS_ns ?_ (nosh_txts _))))
  have hi : evI (CC k) G (.items (.var 0)) [some (sts S), some (.int pl), none, none] = some (S.map fun p => .tup [.str p.1, sv p.2]) := by
    simp only [evI, ev, sts, List.getElem?_cons_zero]
    exact congrArg some (items_sts S)
  refine (ev_lc hi (lc_rule (fun p : Str × (Int × Int) => D.tup [.str p.1, sv p.2]) (fun p => decide (p.2.1 ≤ pl) && decide (pl ≤ p.2.2)) (fun p => .str p.1) fun p hp => ?_)).trans ?_
  · refine ⟨[some (sts S), some (.int pl), some (.str p.1), some (sv p.2)], rfl, ⟨0, ?_⟩, fun _ => ⟨0, rfl⟩⟩
    have e0 : ev (CC k) G (.idx (.var 3) (.int 0)) [some (sts S), some (.int pl), some (.str p.1), some (sv p.2)] = some (0, .int p.2.1) := by with_unfolding_all rfl
    have e1 : ev (CC k) G (.idx (.var 3) (.int 1)) [some (sts S), some (.int pl), some (.str p.1), some (sv p.2)] = some (0, .int p.2.2) := by with_unfolding_all rfl
    have e2 : ev (CC k) G (.var 1) [some (sts S), some (.int pl), some (.str p.1), some (sv p.2)] = some (0, .int pl) := rfl
    rw [ev, e0, e1, e2]
    simp only [cmpD]
    cases decide (p.2.1 ≤ pl) <;> rfl
  · unfold txts stands
    rw [List.map_map]; rfl
end K9

set_option Elab.async false
set_option linter.all false
set_option maxRecDepth 100000
set_option maxHeartbeats 4000000
/-! k09, part H: stretches' dict is written. -/
namespace K9
open PySem PySem.Spec PyProof.Rows L2 PV
def updE (S : Sts) (y : Str) (e : Int) : Sts := S.map fun p => if p.1 = y then (p.1, (p.2.1, e)) else p
def kvS (p : Str × (Int × Int)) : Key × D := (.inr p.1, sv p.2)
theorem nod_sts {S : Sts} (h : (S.map (·.1)).Nodup) : nodK ((S.map kvS).map (·.1)) = true := by
  induction S with
  | nil => rfl
  | cons p S ih =>
    rw [List.map_cons, List.nodup_cons] at h
    have h2 := ih h.2
    show (!memK (.inr p.1) ((S.map kvS).map (·.1)) && nodK ((S.map kvS).map (·.1))) = true
    rw [h2, Bool.and_true]
    cases q : memK (.inr p.1) ((S.map kvS).map (·.1)) with
    | false => rfl
    | true =>
      have := memK_iff.mp q
      rw [List.map_map] at this
      obtain ⟨r, r1, r2⟩ := List.mem_map.mp this
      have : r.1 = p.1 := by
        have z : (Sum.inr r.1 : Key) = .inr p.1 := r2
        exact Sum.inr.inj z
      exact absurd (List.mem_map.mpr ⟨r, r1, this⟩) h.1
theorem val_sts {S : Sts} (h : (S.map (·.1)).Nodup) {p : Str × (Int × Int)} (hp : p ∈ S) : valD (S.map kvS) (.inr p.1 : Key) = some (sv p.2) := by
  induction S with
  | nil => cases hp
  | cons q S ih =>
    rw [List.map_cons, List.nodup_cons] at h
    unfold valD
    rw [List.map_cons, List.find?_cons]
    rcases List.mem_cons.mp hp with rfl | hp
    · have : decide ((kvS p).1 = Sum.inr p.1) = true := decide_eq_true rfl
      rw [this]; rfl
    · have ne : decide ((kvS q).1 = (Sum.inr p.1 : Key)) = false := decide_eq_false fun z => by
        have z : (Sum.inr q.1 : Key) = .inr p.1 := z
        have := Sum.inr.inj z
        exact h.1 (this ▸ List.mem_map.mpr ⟨p, hp, rfl⟩)
      rw [ne]
      exact ih h.2 hp
theorem any_sts {S : Sts} {p : Str × (Int × Int)} (hp : p ∈ S) : ((S.map kvS).any fun kv => decide (kv.1 = (Sum.inr p.1 : Key))) = true := List.any_eq_true.mpr ⟨kvS p, List.mem_map.mpr ⟨p, hp, rfl⟩, decide_eq_true rfl⟩
theorem fst_uniq {S : Sts} (h : (S.map (·.1)).Nodup) {p q : Str × (Int × Int)} (hp : p ∈ S) (hq : q ∈ S) (e : p.1 = q.1) : p = q := by
  induction S with
  | nil => cases hp
  | cons r S ih =>
    rw [List.map_cons, List.nodup_cons] at h
    rcases List.mem_cons.mp hp with p1 | p1
    · rcases List.mem_cons.mp hq with q1 | q1
      · exact p1.trans q1.symm
      · exact absurd (List.mem_map.mpr ⟨q, q1, by rw [← e, p1]⟩) h.1
    · rcases List.mem_cons.mp hq with q1 | q1
      · exact absurd (List.mem_map.mpr ⟨p, p1, by rw [e, q1]⟩) h.1
      · exact ih h.2 p1 q1
theorem put2_sts {S : Sts} (h : (S.map (·.1)).Nodup) {y : Str} (hy : y ∈ S.map (·.1)) (e : Int) : put2 (sts S) (.str y) 1 (.int e) = some (sts (updE S y e)) := by
  obtain ⟨p, hp, rfl⟩ := List.mem_map.mp hy
  have hk : keyOf (.str p.1) = some (.inr p.1) := rfl
  show (match (keyOf (.str p.1) : Option Key) with
    | some k => if nodK ((S.map kvS).map (fun z : Key × D => z.1)) = true then match valD (S.map kvS) k with
        | some (D.lst xs) => match ixN xs.length 1 with
          | some i => some (D.dic (putD (S.map kvS) k (.lst (xs.set i (.int e)))))
          | none => none
        | _ => none
      else (none : Option D)
    | none => (none : Option D)) = _
  rw [hk]
  dsimp only
  rw [if_pos (nod_sts h), val_sts h hp]
  show some (D.dic (putD (S.map kvS) (.inr p.1) (.lst [.int p.2.1, .int e]))) = _
  unfold putD
  rw [if_pos (any_sts hp)]
  unfold sts updE
  rw [List.map_map, List.map_map]
  congr 2
  refine List.map_congr_left fun q hq => ?_
  show (if (Sum.inr q.1 : Key) = .inr p.1 then ((Sum.inr q.1 : Key), D.lst [.int p.2.1, .int e]) else kvS q) = kvS (if q.1 = p.1 then (q.1, (q.2.1, e)) else q)
  by_cases z : q.1 = p.1
  · have := fst_uniq h hq hp z
    subst this
    rw [if_pos rfl, if_pos rfl]
    rfl
  · rw [if_neg fun w => z (Sum.inr.inj w), if_neg z]
end K9

set_option Elab.async false
set_option linter.all false
set_option maxRecDepth 100000
set_option maxHeartbeats 4000000
/-! k09, part I: a new stretch. -/
namespace K9
open PySem PySem.Spec PyProof.Rows L2 PV
theorem putO_sts {S : Sts} (h : (S.map (·.1)).Nodup) {x : Str} (hx : x ∉ S.map (·.1)) (hl : S.length < cap) (a b : Int) : putO (sts S) (.str x) (.lst [.int a, .int b]) = some (sts (S ++ [(x, (a, b))])) := by
  have hk : keyOf (.str x) = some (.inr x) := rfl
  show (match (keyOf (.str x) : Option Key) with
    | some k => if nodK ((S.map kvS).map (fun z : Key × D => z.1)) = true ∧ (S.map kvS).length < cap then some (D.dic (putD (S.map kvS) k (D.lst [.int a, .int b]))) else (none : Option D)
    | none => (none : Option D)) = _
  rw [hk]
  dsimp only
  rw [if_pos ⟨nod_sts h, by rw [List.length_map]; exact hl⟩]
  unfold putD
  rw [if_neg]
  · unfold sts
    rw [List.map_append]
    rfl
  · intro z
    obtain ⟨q, q1, q2⟩ := List.any_eq_true.mp z
    obtain ⟨p, p1, rfl⟩ := List.mem_map.mp q1
    have w : (Sum.inr p.1 : Key) = .inr x := of_decide_eq_true q2
    exact hx (List.mem_map.mpr ⟨p, p1, Sum.inr.inj w⟩)
theorem updE_keys (S : Sts) (y : Str) (e : Int) : (updE S y e).map (·.1) = S.map (·.1) := by
  unfold updE
  rw [List.map_map]
  refine List.map_congr_left fun p _ => ?_
  show (if p.1 = y then (p.1, (p.2.1, e)) else p).1 = p.1
  split <;> rfl
/-- the ends of the names of a list become e -/
def updEs (S : Sts) : List Str → Int → Sts
  | [], _ => S
  | y :: ys, e => updEs (updE S y e) ys e
theorem updEs_keys (S : Sts) : ∀ (ys : List Str) (e : Int), (updEs S ys e).map (·.1) = S.map (·.1)
  | [], _ => rfl
  | y :: ys, e => (updEs_keys (updE S y e) ys e).trans (updE_keys S y e)
/-- one row's work, and all rows' -/
def rowS (S : Sts) (at_ : Int) (r : Rw) : Sts := match r.sets with
  | some x => updEs S r.needs at_ ++ [(x, (at_ + 1, at_ + 1))]
  | none => updEs S r.needs at_
def rowsS (S : Sts) : Int → List Rw → Sts
  | _, [] => S
  | a, r :: rs => rowsS (rowS S a r) (a + 1) rs
def stretchS (takes : List Str) (rows : List Rw) (last : List Str) : Sts := updEs (rowsS (takes.map fun x => (x, (0, 0))) 0 rows) last rows.length
end K9

set_option Elab.async false
set_option linter.all false
set_option maxRecDepth 100000
set_option maxHeartbeats 4000000
/-! k09, part J: loops that write ends. -/
namespace K9
open PySem PySem.Spec PyProof.Rows L2 PV
theorem exp_get {m : List Nat} : ∀ {ρ : PV.Env} {i j k : Nat} {d : D}, ρ[j]? = some (some (k, d)) → (k = 0 ∨ (i + j) ∈ m) → (expose m i ρ)[j]? = some (some d)
  | [], i, j, k, d, h, _ => by simp at h
  | none :: ρ, i, 0, k, d, h, _ => by simp at h
  | some v :: ρ, i, 0, k, d, h, hk => by
    have e : some (k, d) = some v := by simpa using h.symm
    cases e
    show some (if k = 0 ∨ i ∈ m then some d else none) = _
    rw [if_pos (show k = 0 ∨ i ∈ m from hk)]
  | none :: ρ, i, j + 1, k, d, h, hk => by
    show (expose m (i + 1) ρ)[j]? = _
    exact exp_get (by simpa using h) (by rw [Nat.add_right_comm, Nat.add_assoc]; exact hk)
  | some v :: ρ, i, j + 1, k, d, h, hk => by
    show (expose m (i + 1) ρ)[j]? = _
    exact exp_get (by simpa using h) (by rw [Nat.add_right_comm, Nat.add_assoc]; exact hk)
theorem ex_upd2 {C : CT} {w i : Nat} {a e : Exp} {j : Int} {ρ ρ1 ρ2 : PV.Env} {k k2 : Nat} {v y d d' : D} (h1 : evS C G e ρ = some (k, v, ρ1)) (h2 : evS C G a ρ1 = some (k2, y, ρ2)) (h3 : ρ2[i]? = some (some (2, d))) (h4 : put2 d y j v = some d') : PV.exec C G w (.upd2 i a j e) ρ = some (.nx (ρ2.set i (some (2, d')))) := by
  show (match evS C G e ρ with
    | some (_, v, ρ1) => match evS C G a ρ1 with
      | some (_, y, ρ2) => match ρ2[i]? with
        | some (some (2, d)) => match put2 d y j v with
          | some d' => some (Out.nx (ρ2.set i (some (2, d'))))
          | none => none
        | _ => none
      | none => none
    | none => none) = _
  simp only [h1, h2, h3, h4]
/-- the loop over names: E gives e, whatever stands in the slots 3 and 4 -/
theorem upd_loop {C : CT} {E : Exp} {e : Int} {d0 d1 d2 : Option (Nat × D)} {t : List (Option (Nat × D))} (hE : ∀ S x4, evS C G E (d0 :: d1 :: d2 :: some (2, sts S) :: x4 :: t) = some (0, .int e, d0 :: d1 :: d2 :: some (2, sts S) :: x4 :: t)) :
    ∀ (ys : List Str) (S : Sts) (x4 : Option (Nat × D)), (S.map (·.1)).Nodup → (∀ y ∈ ys, y ∈ S.map (·.1)) → ∃ y4, forL (.one 4) (fun r => PV.exec C G W (.cons (.upd2 3 (.var 4) 1 E) .nil) r) (ys.map D.str) (d0 :: d1 :: d2 :: some (2, sts S) :: x4 :: t) = some (.nx (d0 :: d1 :: d2 :: some (2, sts (updEs S ys e)) :: y4 :: t))
  | [], S, x4, _, _ => ⟨x4, rfl⟩
  | y :: ys, S, x4, nd, hy => by
    have hk := updE_keys S y e
    obtain ⟨y4, ih⟩ := upd_loop hE ys (updE S y e) (some (0, .str y)) (by rw [hk]; exact nd) (fun z hz => by rw [hk]; exact hy z (List.mem_cons_of_mem _ hz))
    refine ⟨y4, ?_⟩
    have ea : asgE (.one 4) (.str y) (d0 :: d1 :: d2 :: some (2, sts S) :: x4 :: t) = some (d0 :: d1 :: d2 :: some (2, sts S) :: some (0, .str y) :: t) := rfl
    have hv : evS C G (.var 4) (d0 :: d1 :: d2 :: some (2, sts S) :: some (0, .str y) :: t) = some (0, .str y, d0 :: d1 :: d2 :: some (2, sts S) :: some (0, .str y) :: t) := by
      refine evS_ns ?_ rfl
      have g := exp_get (m := fv (.var 4)) (i := 0) (j := 4) (ρ := d0 :: d1 :: d2 :: some (2, sts S) :: some (0, D.str y) :: t) rfl (.inl rfl)
      simp only [ev, g]
    have hx := ex_upd2 (w := W) (i := 3) (j := 1) (hE S (some (0, .str y))) hv rfl (put2_sts nd (hy y (List.mem_cons_self ..)) e)
    have hc : PV.exec C G W (.cons (.upd2 3 (.var 4) 1 E) .nil) (d0 :: d1 :: d2 :: some (2, sts S) :: some (0, .str y) :: t) = some (.nx (d0 :: d1 :: d2 :: some (2, sts (updE S y e)) :: some (0, .str y) :: t)) := (ex_nx hx).trans rfl
    rw [List.map_cons]
    unfold forL
    rw [ea]
    dsimp only
    rw [hc]
    exact ih
end K9

set_option Elab.async false
set_option linter.all false
set_option maxRecDepth 100000
set_option maxHeartbeats 4000000
/-! k09, part K: one row's work in stretches_of. -/
namespace K9
open PySem PySem.Spec PyProof.Rows L2 PV
abbrev rowB : Sta := (.cons (.for_ (.one 4) (.itn (.call "needs_of" (.cons (.var 6) .nil) [] .nil)) (.cons (.upd2 3 (.var 4) 1 (.var 5)) .nil))
    (.cons (.ite (.cmp .isnot (.call "set_by" (.cons (.var 6) .nil) [] .nil) .non) (.cons (.seto 3 (.call "set_by" (.cons (.var 6) .nil) [] .nil) (.lst (.cons (.bin .add (.var 5) (.int 1)) (.cons (.bin .add (.var 5) (.int 1)) .nil)))) .nil) .nil)
    .nil))
abbrev envS (a b c : D) (S : Sts) (x4 : Option (Nat × D)) (at_ : Int) (r : Rw) : PV.Env := [some (0, a), some (0, b), some (0, c), some (2, sts S), x4, some (0, .int at_), some (0, r.d)]
theorem needs_loop (k : Nat) {a b c : D} {S : Sts} {x4 : Option (Nat × D)} {at_ : Int} {r : Rw} (nd : (S.map (·.1)).Nodup) (hn : ∀ y ∈ r.needs, y ∈ S.map (·.1)) :
    ∃ y4, PV.exec (CC (k + 1)) G W (.for_ (.one 4) (.itn (.call "needs_of" (.cons (.var 6) .nil) [] .nil)) (.cons (.upd2 3 (.var 4) 1 (.var 5)) .nil)) (envS a b c S x4 at_ r) = some (.nx (envS a b c (updEs S r.needs at_) y4 at_ r)) := by
  obtain ⟨y4, hL⟩ := upd_loop (C := CC (k + 1)) (E := .var 5) (e := at_) (d0 := some (0, a)) (d1 := some (0, b)) (d2 := some (0, c)) (t := [some (0, .int at_), some (0, r.d)]) (fun S x4 => by
    refine evS_ns ?_ rfl
    have g := exp_get (m := fv (.var 5)) (i := 0) (j := 5) (ρ := [some (0, a), some (0, b), some (0, c), some (2, sts S), x4, some (0, .int at_), some (0, r.d)]) rfl (.inl rfl)
    simp only [ev, g]) r.needs S x4 nd hn
  refine ⟨y4, ?_⟩
  have g6 := exp_get (m := fv (.itn (.call "needs_of" (.cons (.var 6) .nil) [] .nil))) (i := 0) (j := 6) (ρ := envS a b c S x4 at_ r) rfl (.inl rfl)
  have hc : ev (CC (k + 1)) G (.call "needs_of" (.cons (.var 6) .nil) [] .nil) (expose (fv (.itn (.call "needs_of" (.cons (.var 6) .nil) [] .nil))) 0 (envS a b c S x4 at_ r)) = some (1, txts r.needs) := by
    simp only [ev, evs, g6]
    exact needs_of_ok k r
  refine (ex_for (ds := r.needs.map D.str) ?_ ?_).trans ?_
  · rfl
  · simp only [evI, hc]
    rfl
  · have hf : freeze (fv (.itn (.call "needs_of" (.cons (.var 6) .nil) [] .nil))) 0 (envS a b c S x4 at_ r) = envS a b c S x4 at_ r := by
      rcases x4 with _ | ⟨k4, d4⟩ <;> rfl
    rw [hf]
    exact hL
end K9

set_option Elab.async false
set_option linter.all false
set_option maxRecDepth 100000
set_option maxHeartbeats 4000000
/-! k09, part L: one row's work, whole. -/
namespace K9
open PySem PySem.Spec PyProof.Rows L2 PV
theorem ex_seto {C : CT} {w i : Nat} {a e : Exp} {ρ ρ1 ρ2 : PV.Env} {k2 : Nat} {v y d d' : D} (h1 : evS C G e ρ = some (1, v, ρ1)) (h2 : evS C G a ρ1 = some (k2, y, ρ2)) (h3 : ρ2[i]? = some (some (2, d))) (h4 : putO d y v = some d') : PV.exec C G w (.seto i a e) ρ = some (.nx (ρ2.set i (some (2, d')))) := by
  show (match evS C G e ρ with
    | some (1, v, ρ1) => match evS C G a ρ1 with
      | some (_, y, ρ2) => match ρ2[i]? with
        | some (some (2, d)) => match putO d y v with
          | some d' => some (Out.nx (ρ2.set i (some (2, d'))))
          | none => none
        | _ => none
      | none => none
    | _ => none) = _
  simp only [h1, h2, h3, h4]
theorem set_step (k : Nat) {a b c : D} {S : Sts} {x4 : Option (Nat × D)} {at_ : Int} {r : Rw} (nd : (S.map (·.1)).Nodup) (hn : ∀ x, r.sets = some x → x ∉ S.map (·.1)) (hl : S.length < cap) :
    PV.exec (CC (k + 1)) G W (.ite (.cmp .isnot (.call "set_by" (.cons (.var 6) .nil) [] .nil) .non) (.cons (.seto 3 (.call "set_by" (.cons (.var 6) .nil) [] .nil) (.lst (.cons (.bin .add (.var 5) (.int 1)) (.cons (.bin .add (.var 5) (.int 1)) .nil)))) .nil) .nil) (envS a b c S x4 at_ r) =
      some (.nx (envS a b c (match r.sets with | some x => S ++ [(x, (at_ + 1, at_ + 1))] | none => S) x4 at_ r)) := by
  have hcall : ∀ m, ev (CC (k + 1)) G (.call "set_by" (.cons (.var 6) .nil) [] .nil) (expose m 0 (envS a b c S x4 at_ r)) = some (0, optS r.sets) := fun m => by
    have g6 := exp_get (m := m) (i := 0) (j := 6) (ρ := envS a b c S x4 at_ r) rfl (.inl rfl)
    simp only [ev, evs, g6]
    exact set_by_ok k r
  have hb : evB (CC (k + 1)) G (.cmp .isnot (.call "set_by" (.cons (.var 6) .nil) [] .nil) .non) (envS a b c S x4 at_ r) = some r.sets.isSome := by
    refine evB_of (k := 0) ?_
    rw [ev, hcall]
    cases r.sets <;> rfl
  cases hs : r.sets with
  | none =>
    rw [hs] at hb
    exact (ex_false hb).trans rfl
  | some x =>
    rw [hs] at hb
    refine (ex_true hb).trans ((ex_nx (ex_seto (v := .lst [.int (at_ + 1), .int (at_ + 1)]) (y := .str x) (k2 := 0) (evS_ns ?_ rfl) (evS_ns ?_ rfl) rfl (putO_sts nd (hn x hs) hl (at_ + 1) (at_ + 1)))).trans rfl)
    · have g5 := exp_get (m := fv (.lst (.cons (.bin .add (.var 5) (.int 1)) (.cons (.bin .add (.var 5) (.int 1)) .nil)))) (i := 0) (j := 5) (ρ := envS a b c S x4 at_ r) rfl (.inl rfl)
      simp only [ev, evs, g5, binD, addD]
      rfl
    · rw [hcall, hs]; rfl
end K9

set_option Elab.async false
set_option linter.all false
set_option maxRecDepth 100000
set_option maxHeartbeats 4000000
/-! k09, part M: the rows' loop of stretches_of. -/
namespace K9
open PySem PySem.Spec PyProof.Rows L2 PV
/-- rows are straight: what they need is known, what they set is new -/
def strt (K : List Str) : List Rw → Prop
  | [] => True
  | r :: rs => (∀ y ∈ r.needs, y ∈ K) ∧ (∀ x, r.sets = some x → x ∉ K) ∧ strt (K ++ r.sets.toList) rs
theorem rowS_keys (S : Sts) (a : Int) (r : Rw) : (rowS S a r).map (·.1) = S.map (·.1) ++ r.sets.toList := by
  unfold rowS
  cases r.sets with
  | none => rw [updEs_keys]; exact (List.append_nil _).symm
  | some x => rw [List.map_append, updEs_keys]; rfl
theorem row_step (k : Nat) {a b c : D} {S : Sts} {x4 : Option (Nat × D)} {at_ : Int} {r : Rw} (nd : (S.map (·.1)).Nodup) (h1 : ∀ y ∈ r.needs, y ∈ S.map (·.1)) (h2 : ∀ x, r.sets = some x → x ∉ S.map (·.1)) (hl : S.length < cap) :
    ∃ y4, PV.exec (CC (k + 1)) G W rowB (envS a b c S x4 at_ r) = some (.nx (envS a b c (rowS S at_ r) y4 at_ r)) := by
  obtain ⟨y4, e1⟩ := needs_loop k (a := a) (b := b) (c := c) (x4 := x4) (at_ := at_) nd h1
  have ks := updEs_keys S r.needs at_
  have e2 := set_step k (a := a) (b := b) (c := c) (S := updEs S r.needs at_) (x4 := y4) (at_ := at_) (r := r) (by rw [ks]; exact nd) (by rw [ks]; exact h2) (by
    have := congrArg List.length ks
    rw [List.length_map, List.length_map] at this
    omega)
  exact ⟨y4, (ex_nx e1).trans ((ex_nx e2).trans rfl)⟩
theorem rows_loop (k : Nat) {a b c : D} : ∀ (rs : List Rw) (S : Sts) (n : Nat) (x4 x5 x6 : Option (Nat × D)), (S.map (·.1)).Nodup → strt (S.map (·.1)) rs → S.length + rs.length < cap →
    ∃ y4 y5 y6, forL (.many [5, 6]) (fun r => PV.exec (CC (k + 1)) G W rowB r) (enumD n (rs.map Rw.d)) [some (0, a), some (0, b), some (0, c), some (2, sts S), x4, x5, x6] = some (.nx [some (0, a), some (0, b), some (0, c), some (2, sts (rowsS S n rs)), y4, y5, y6])
  | [], S, n, x4, x5, x6, _, _, _ => ⟨x4, x5, x6, rfl⟩
  | r :: rs, S, n, x4, x5, x6, nd, h, hl => by
    obtain ⟨h1, h2, h3⟩ := h
    rw [List.length_cons] at hl
    obtain ⟨y4, e⟩ := row_step k (a := a) (b := b) (c := c) (x4 := x4) (at_ := (n : Int)) nd h1 h2 (by omega)
    have kk := rowS_keys S (n : Int) r
    have hlen : (rowS S (n : Int) r).length ≤ S.length + 1 := by
      have := congrArg List.length kk
      rw [List.length_map, List.length_append, List.length_map] at this
      have : r.sets.toList.length ≤ 1 := by cases r.sets <;> simp
      omega
    obtain ⟨z4, z5, z6, ih⟩ := rows_loop k (a := a) (b := b) (c := c) rs (rowS S (n : Int) r) (n + 1) y4 (some (0, .int n)) (some (0, r.d)) (by
      rw [kk]
      cases hs : r.sets with
      | none => simpa using nd
      | some x => exact List.nodup_append.mpr ⟨nd, by simp, fun u hu v hv e => by
          have : v = x := by simpa using hv
          subst this
          subst e
          exact h2 _ hs hu⟩) (by rw [kk]; exact h3) (by omega)
    refine ⟨z4, z5, z6, ?_⟩
    have ea : asgE (.many [5, 6]) (.tup [.int (n : Nat), r.d]) [some (0, a), some (0, b), some (0, c), some (2, sts S), x4, x5, x6] = some (envS a b c S x4 (n : Int) r) := rfl
    rw [List.map_cons]
    unfold enumD forL
    rw [ea]
    dsimp only
    rw [e]
    exact ih
end K9

set_option Elab.async false
set_option linter.all false
set_option maxRecDepth 100000
set_option maxHeartbeats 4000000
/-! k09, part N: the start of stretches_of. -/
namespace K9
open PySem PySem.Spec PyProof.Rows L2 PV
theorem put_new {S : Sts} {x : Str} (hx : x ∉ S.map (·.1)) (p : Int × Int) : putD (S.map kvS) (.inr x : Key) (sv p) = (S ++ [(x, p)]).map kvS := by
  unfold putD
  rw [if_neg]
  · rw [List.map_append]; rfl
  · intro z
    obtain ⟨q, q1, q2⟩ := List.any_eq_true.mp z
    obtain ⟨r, p1, rfl⟩ := List.mem_map.mp q1
    have w : (Sum.inr r.1 : Key) = .inr x := of_decide_eq_true q2
    exact hx (List.mem_map.mpr ⟨r, p1, Sum.inr.inj w⟩)
theorem dco_loop {C : CT} {ρ : Ro} (h4 : ρ.length = 7) : ∀ (xs : List Str) (S : Sts), (S.map (·.1) ++ xs).Nodup →
    dcoL (.one 4) (fun r => ev C G .yes r) (fun r => ev C G (.var 4) r) (fun r => ev C G (.lst (.cons (.int 0) (.cons (.int 0) .nil))) r) ρ (xs.map D.str) (S.map kvS) = some ((S ++ xs.map fun x => (x, ((0 : Int), (0 : Int)))).map kvS)
  | [], S, _ => by
    show some (S.map kvS) = _
    rw [List.map_nil, List.append_nil]
  | x :: xs, S, nd => by
    have hx : x ∉ S.map (·.1) := fun z => (List.nodup_append.mp nd).2.2 _ z _ (List.mem_cons_self ..) rfl
    have ih := dco_loop (C := C) (ρ := ρ) h4 xs (S ++ [(x, (0, 0))]) (by
      rw [List.map_append, List.append_assoc]
      exact nd)
    have ea : asg (.one 4) (.str x) ρ = some (ρ.set 4 (some (.str x))) := rfl
    have ek : ev C G (.var 4) (ρ.set 4 (some (.str x))) = some (0, .str x) := by
      have g : (ρ.set 4 (some (D.str x)))[4]? = some (some (.str x)) := by
        rw [List.getElem?_set_self (by omega)]
      simp only [ev, g]
    have evv : ev C G (.lst (.cons (.int 0) (.cons (.int 0) .nil))) (ρ.set 4 (some (.str x))) = some (1, sv (0, 0)) := rfl
    have ey : ev C G .yes (ρ.set 4 (some (.str x))) = some (0, .bl true) := rfl
    have hk : keyOf (.str x) = some (.inr x) := rfl
    rw [List.map_cons]
    unfold dcoL
    rw [ea]
    dsimp only
    rw [ey, ek, evv]
    show dcoL (.one 4) (fun r => ev C G .yes r) (fun r => ev C G (.var 4) r) (fun r => ev C G (.lst (.cons (.int 0) (.cons (.int 0) .nil))) r) ρ (xs.map D.str) (putD (S.map kvS) (.inr x) (sv (0, 0))) = _
    rw [put_new hx, ih, List.append_assoc]
    rfl
end K9

set_option Elab.async false
set_option linter.all false
set_option maxRecDepth 100000
set_option maxHeartbeats 4000000
/-! k09, part O: stretches_of, whole. -/
namespace K9
open PySem PySem.Spec PyProof.Rows L2 PV
def rowsD (rs : List Rw) : D := .lst (rs.map Rw.d)
/-- a list or a tuple of names -/
inductive Nms : D → List Str → Prop
  | lst (xs : List Str) : Nms (.lst (xs.map D.str)) xs
  | tup (xs : List Str) : Nms (.tup (xs.map D.str)) xs
theorem Nms.iter {C : CT} {d : D} {xs : List Str} (h : Nms d xs) {i : Nat} {ρ : Ro} (hi : ρ[i]? = some (some d)) : evI C G (.itr (.var i)) ρ = some (xs.map D.str) := by
  cases h <;> simp only [evI, ev, hi] <;> rfl
theorem rowsS_keys : ∀ (rs : List Rw) (S : Sts) (a : Int), (rowsS S a rs).map (·.1) = S.map (·.1) ++ (rs.map fun r => r.sets.toList).flatten
  | [], S, a => by show S.map (·.1) = _; simp
  | r :: rs, S, a => by
    show (rowsS (rowS S a r) (a + 1) rs).map (·.1) = _
    rw [rowsS_keys rs, rowS_keys, List.map_cons, List.flatten_cons, List.append_assoc]
theorem strt_nodup : ∀ (rs : List Rw) (K : List Str), K.Nodup → strt K rs → (K ++ (rs.map fun r => r.sets.toList).flatten).Nodup
  | [], K, nd, _ => by simpa using nd
  | r :: rs, K, nd, h => by
    rw [List.map_cons, List.flatten_cons, ← List.append_assoc]
    refine strt_nodup rs _ ?_ h.2.2
    cases hs : r.sets with
    | none => simpa using nd
    | some x => exact List.nodup_append.mpr ⟨nd, by simp, fun u hu v hv e => by
        have : v = x := by simpa using hv
        subst this
        subst e
        exact h.2.1 _ hs hu⟩
end K9

set_option Elab.async false
set_option linter.all false
set_option maxRecDepth 100000
set_option maxHeartbeats 4000000
/-! k09, part P: stretches_of, whole. -/
namespace K9
open PySem PySem.Spec PyProof.Rows L2 PV
theorem nosh_sts (S : Sts) : nosh 2 (sts S) = true := by
  show ((S.map kvS).all fun p => nosh 1 p.2) = true
  rw [List.all_map]
  exact List.all_eq_true.mpr fun _ _ => rfl
theorem stretches_ok (k : Nat) {rs : List Rw} {tk ls : List Str} {dt dl : D} (ht : Nms dt tk) (hl : Nms dl ls) (nd : tk.Nodup) (hs : strt tk rs) (hin : ∀ y ∈ ls, y ∈ tk ++ (rs.map fun r => r.sets.toList).flatten) (hc : tk.length + rs.length < cap) :
    CC (k + 2) (.fn "stretches_of") [rowsD rs, dt, dl] [] [] = some (2, sts (stretchS tk rs ls)) := by
  show runD (CC (k + 1)) G W d_stretches_of [rowsD rs, dt, dl] = _
  refine run_rt ?_
  have k0 : ((tk.map fun x => (x, ((0 : Int), (0 : Int)))).map (·.1)) = tk := by rw [List.map_map]; exact List.map_id _
  have s1 : PV.exec (CC (k + 1)) G W (.set 3 (.dco [4] (.one 4) (.itr (.var 1)) .yes (.var 4) (.lst (.cons (.int 0) (.cons (.int 0) .nil))))) [some (0, rowsD rs), some (0, dt), some (0, dl), none, none, none, none] = some (.nx [some (0, rowsD rs), some (0, dt), some (0, dl), some (2, sts (tk.map fun x => (x, (0, 0)))), none, none, none]) := by
    refine (ex_set (k := 2) (d := sts (tk.map fun x => (x, (0, 0)))) (evS_ns ?_ ?_)).trans rfl
    · have hi := ht.iter (C := CC (k + 1)) (i := 1) (ρ := [some (rowsD rs), some dt, some dl, none, none, none, none]) rfl
      have hd := dco_loop (C := CC (k + 1)) (ρ := [some (rowsD rs), some dt, some dl, none, none, none, none]) rfl tk [] (by simpa using nd)
      show ev (CC (k + 1)) G _ [some (rowsD rs), some dt, some dl, none, none, none, none] = _
      rw [ev, hi]
      exact congrArg (Option.map fun ys => (2, D.dic ys)) hd
    · exact nosh_sts _
  obtain ⟨y4, y5, y6, s2'⟩ := rows_loop k (a := rowsD rs) (b := dt) (c := dl) rs (tk.map fun x => (x, (0, 0))) 0 none none none (by rw [k0]; exact nd) (by rw [k0]; exact hs) (by rw [List.length_map]; exact hc)
  have s2 : PV.exec (CC (k + 1)) G W (.for_ (.many [5, 6]) (.enm (.var 0)) rowB) [some (0, rowsD rs), some (0, dt), some (0, dl), some (2, sts (tk.map fun x => (x, (0, 0)))), none, none, none] = some (.nx [some (0, rowsD rs), some (0, dt), some (0, dl), some (2, sts (rowsS (tk.map fun x => (x, (0, 0))) 0 rs)), y4, y5, y6]) :=
    (ex_for (ds := enumD 0 (rs.map Rw.d)) rfl rfl).trans s2'
  have kk := rowsS_keys rs (tk.map fun x => (x, (0, 0))) 0
  rw [k0] at kk
  obtain ⟨z4, s3'⟩ := upd_loop (C := CC (k + 1)) (E := .blt .len (.var 0)) (e := (rs.length : Nat)) (d0 := some (0, rowsD rs)) (d1 := some (0, dt)) (d2 := some (0, dl)) (t := [y5, y6]) (fun S x4 => by
    refine evS_ns ?_ rfl
    have g := exp_get (m := fv (.blt .len (.var 0))) (i := 0) (j := 0) (ρ := [some (0, rowsD rs), some (0, dt), some (0, dl), some (2, sts S), x4, y5, y6]) rfl (.inl rfl)
    have hl0 : bltD .len (rowsD rs) = some (0, .int (rs.length : Nat)) := by
      show some (0, D.int ((rs.map Rw.d).length : Nat)) = _
      rw [List.length_map]
    simp only [ev, g]
    exact hl0) ls (rowsS (tk.map fun x => (x, (0, 0))) 0 rs) y4 (by rw [kk]; exact strt_nodup rs tk nd hs) (by rw [kk]; exact hin)
  have s3 : PV.exec (CC (k + 1)) G W (.for_ (.one 4) (.itr (.var 2)) (.cons (.upd2 3 (.var 4) 1 (.blt .len (.var 0))) .nil)) [some (0, rowsD rs), some (0, dt), some (0, dl), some (2, sts (rowsS (tk.map fun x => (x, (0, 0))) 0 rs)), y4, y5, y6] = some (.nx [some (0, rowsD rs), some (0, dt), some (0, dl), some (2, sts (stretchS tk rs ls)), z4, y5, y6]) := by
    have g := exp_get (m := fv (.itr (.var 2))) (i := 0) (j := 2) (ρ := [some (0, rowsD rs), some (0, dt), some (0, dl), some (2, sts (rowsS (tk.map fun x => (x, (0, 0))) 0 rs)), y4, y5, y6]) rfl (.inl rfl)
    refine (ex_for (ds := ls.map D.str) ?_ (hl.iter g)).trans ?_
    · cases hl <;> simp only [isDicE, ev, g]
    · have hf : freeze (fv (.itr (.var 2))) 0 [some (0, rowsD rs), some (0, dt), some (0, dl), some (2, sts (rowsS (tk.map fun x => (x, (0, 0))) 0 rs)), y4, y5, y6] = [some (0, rowsD rs), some (0, dt), some (0, dl), some (2, sts (rowsS (tk.map fun x => (x, (0, 0))) 0 rs)), y4, y5, y6] := by
        rcases y4 with _ | ⟨_, _⟩ <;> rcases y5 with _ | ⟨_, _⟩ <;> rcases y6 with _ | ⟨_, _⟩ <;> rfl
      rw [hf]
      exact s3'
  exact (ex_nx s1).trans ((ex_nx s2).trans ((ex_nx s3).trans (ex_rt rfl)))
end K9

set_option Elab.async false
set_option linter.all false
set_option maxRecDepth 100000
set_option maxHeartbeats 4000000
/-! k09, part Q: stretches in closed form; who stands. -/
namespace K9
open PySem PySem.Spec PyProof.Rows L2 PV
def useE : Int → List Rw → Str → Int → Int
  | _, [], _, e => e
  | a, r :: rs, x, e => useE (a + 1) rs x (if x ∈ r.needs then a else e)
def newS : Int → List Rw → Sts
  | _, [] => []
  | a, r :: rs => (match r.sets with
    | some x => [(x, (a + 1, useE (a + 1) rs x (a + 1)))]
    | none => []) ++ newS (a + 1) rs
theorem updEs_map : ∀ (ys : List Str) (S : Sts) (e : Int), updEs S ys e = S.map fun p => if p.1 ∈ ys then (p.1, (p.2.1, e)) else p
  | [], S, e => by
    show S = _
    simp
  | y :: ys, S, e => by
    show updEs (updE S y e) ys e = _
    rw [updEs_map ys, updE, List.map_map]
    refine List.map_congr_left fun p _ => ?_
    show (if (if p.1 = y then (p.1, (p.2.1, e)) else p).1 ∈ ys then ((if p.1 = y then (p.1, (p.2.1, e)) else p).1, ((if p.1 = y then (p.1, (p.2.1, e)) else p).2.1, e)) else (if p.1 = y then (p.1, (p.2.1, e)) else p)) = _
    by_cases h : p.1 = y
    · rw [if_pos h, if_pos (show p.1 ∈ y :: ys by rw [h]; exact List.mem_cons_self ..)]
      split <;> rfl
    · rw [if_neg h]
      by_cases h2 : p.1 ∈ ys
      · rw [if_pos h2, if_pos (List.mem_cons_of_mem _ h2)]
      · rw [if_neg h2, if_neg (fun z => (List.mem_cons.mp z).elim h h2)]
theorem rowsS_eq : ∀ (rs : List Rw) (S : Sts) (a : Int), rowsS S a rs = (S.map fun p => (p.1, (p.2.1, useE a rs p.1 p.2.2))) ++ newS a rs
  | [], S, a => by
    show S = _ ++ []
    rw [List.append_nil]
    exact (List.map_id _).symm
  | r :: rs, S, a => by
    show rowsS (rowS S a r) (a + 1) rs = _
    rw [rowsS_eq rs]
    have hm : (updEs S r.needs a).map (fun p => (p.1, (p.2.1, useE (a + 1) rs p.1 p.2.2))) = S.map fun p => (p.1, (p.2.1, useE a (r :: rs) p.1 p.2.2)) := by
      rw [updEs_map, List.map_map]
      refine List.map_congr_left fun p _ => ?_
      show (((if p.1 ∈ r.needs then (p.1, (p.2.1, a)) else p)).1, ((if p.1 ∈ r.needs then (p.1, (p.2.1, a)) else p).2.1, useE (a + 1) rs (if p.1 ∈ r.needs then (p.1, (p.2.1, a)) else p).1 (if p.1 ∈ r.needs then (p.1, (p.2.1, a)) else p).2.2)) = (p.1, (p.2.1, useE (a + 1) rs p.1 (if p.1 ∈ r.needs then a else p.2.2)))
      split <;> rfl
    have hn : newS a (r :: rs) = (match r.sets with
      | some x => [(x, (a + 1, useE (a + 1) rs x (a + 1)))]
      | none => []) ++ newS (a + 1) rs := rfl
    rw [hn]
    unfold rowS
    cases hs : r.sets with
    | none => dsimp only; rw [hm]; rfl
    | some x => dsimp only; rw [List.map_append, hm, List.append_assoc]; rfl
/-- what the rows set, need -/
def setsL (rs : List Rw) : List Str := (rs.map fun r => r.sets.toList).flatten
def needsL (rs : List Rw) : List Str := (rs.map Rw.needs).flatten
theorem mem_setsL {rs : List Rw} {x : Str} : x ∈ setsL rs ↔ ∃ (i : Nat) (r : Rw), rs[i]? = some r ∧ r.sets = some x := by
  unfold setsL
  rw [List.mem_flatten]
  constructor
  · rintro ⟨l, hl, hx⟩
    obtain ⟨r, hr, rfl⟩ := List.mem_map.mp hl
    obtain ⟨i, hi⟩ := List.mem_iff_getElem?.mp hr
    exact ⟨i, r, hi, by simpa using hx⟩
  · rintro ⟨i, r, hi, hx⟩
    exact ⟨_, List.mem_map.mpr ⟨r, List.mem_iff_getElem?.mpr ⟨i, hi⟩, rfl⟩, by rw [hx]; simp⟩
theorem mem_needsL {rs : List Rw} {x : Str} : x ∈ needsL rs ↔ ∃ (i : Nat) (r : Rw), rs[i]? = some r ∧ x ∈ r.needs := by
  unfold needsL
  rw [List.mem_flatten]
  constructor
  · rintro ⟨l, hl, hx⟩
    obtain ⟨r, hr, rfl⟩ := List.mem_map.mp hl
    obtain ⟨i, hi⟩ := List.mem_iff_getElem?.mp hr
    exact ⟨i, r, hi, hx⟩
  · rintro ⟨i, r, hi, hx⟩
    exact ⟨_, List.mem_map.mpr ⟨r, List.mem_iff_getElem?.mpr ⟨i, hi⟩, rfl⟩, hx⟩
theorem mem_newS : ∀ {rs : List Rw} {a : Int} {x : Str} {b e : Int}, (x, (b, e)) ∈ newS a rs ↔ ∃ (i : Nat) (r : Rw), rs[i]? = some r ∧ r.sets = some x ∧ b = a + i + 1 ∧ e = useE (a + i + 1) (rs.drop (i + 1)) x (a + i + 1)
  | [], a, x, b, e => by simp [newS]
  | r :: rs, a, x, b, e => by
    unfold newS
    rw [List.mem_append, mem_newS (rs := rs)]
    constructor
    · rintro (h | ⟨i, r', h1, h2, h3, h4⟩)
      · cases hs : r.sets with
        | none => rw [hs] at h; cases h
        | some y =>
          rw [hs] at h
          have h := List.mem_singleton.mp h
          cases h
          exact ⟨0, r, rfl, hs, by simp, by simp⟩
      · refine ⟨i + 1, r', by simpa using h1, h2, by omega, ?_⟩
        rw [h4, show a + 1 + (i : Int) + 1 = a + ((i + 1 : Nat) : Int) + 1 by omega]; rfl
    · rintro ⟨i, r', h1, h2, h3, h4⟩
      cases i with
      | zero =>
        have : r = r' := by simpa using h1
        subst this
        refine .inl ?_
        rw [h2]
        subst h3 h4
        simp
      | succ i =>
        refine .inr ⟨i, r', by simpa using h1, h2, by omega, ?_⟩
        rw [h4, show a + 1 + (i : Int) + 1 = a + ((i + 1 : Nat) : Int) + 1 by omega]; rfl
theorem use_le : ∀ {rs : List Rw} {a : Int} {x : Str} {e pl : Int}, e ≤ a → (pl ≤ useE a rs x e ↔ (∃ (i : Nat) (r : Rw), rs[i]? = some r ∧ x ∈ r.needs ∧ pl ≤ a + i) ∨ (x ∉ needsL rs ∧ pl ≤ e))
  | [], a, x, e, pl, _ => by simp [useE, needsL]
  | r :: rs, a, x, e, pl, he => by
    show pl ≤ useE (a + 1) rs x (if x ∈ r.needs then a else e) ↔ _
    rw [use_le (rs := rs) (a := a + 1) (e := if x ∈ r.needs then a else e) (by split <;> omega)]
    have hn : x ∈ needsL (r :: rs) ↔ x ∈ r.needs ∨ x ∈ needsL rs := by
      show x ∈ (r.needs :: rs.map Rw.needs).flatten ↔ _
      rw [List.flatten_cons, List.mem_append]; rfl
    rw [hn]
    by_cases hx : x ∈ r.needs
    · rw [if_pos hx]
      constructor
      · rintro (⟨i, r', h1, h2, h3⟩ | ⟨_, h⟩)
        · exact .inl ⟨i + 1, r', by simpa using h1, h2, by omega⟩
        · exact .inl ⟨0, r, rfl, hx, by simpa using h⟩
      · rintro (⟨i, r', h1, h2, h3⟩ | ⟨h, _⟩)
        · cases i with
          | zero =>
            by_cases hm : x ∈ needsL rs
            · obtain ⟨j, r2, j1, j2⟩ := mem_needsL.mp hm
              exact .inl ⟨j, r2, j1, j2, by omega⟩
            · exact .inr ⟨hm, by simpa using h3⟩
          | succ i => exact .inl ⟨i, r', by simpa using h1, h2, by omega⟩
        · exact absurd (.inl hx) h
    · rw [if_neg hx]
      constructor
      · rintro (⟨i, r', h1, h2, h3⟩ | ⟨h1, h⟩)
        · exact .inl ⟨i + 1, r', by simpa using h1, h2, by omega⟩
        · exact .inr ⟨fun z => z.elim hx h1, h⟩
      · rintro (⟨i, r', h1, h2, h3⟩ | ⟨h1, h⟩)
        · cases i with
          | zero =>
            have : r = r' := by simpa using h1
            subst this
            exact absurd h2 hx
          | succ i => exact .inl ⟨i, r', by simpa using h1, h2, by omega⟩
        · exact .inr ⟨fun z => h1 (.inr z), h⟩
theorem strt_at : ∀ {rs : List Rw} {K : List Str} {j : Nat} {r : Rw}, strt K rs → rs[j]? = some r → (∀ y ∈ r.needs, y ∈ K ++ setsL (rs.take j)) ∧ (∀ x, r.sets = some x → x ∉ K ++ setsL (rs.take j))
  | [], K, j, r, _, h => by simp at h
  | q :: rs, K, 0, r, h, e => by
    have : q = r := by simpa using e
    subst this
    simp only [List.take_zero, setsL, List.map_nil, List.flatten_nil, List.append_nil]
    exact ⟨h.1, h.2.1⟩
  | q :: rs, K, j + 1, r, h, e => by
    have ih := strt_at (j := j) h.2.2 (by simpa using e)
    have : setsL ((q :: rs).take (j + 1)) = q.sets.toList ++ setsL (rs.take j) := rfl
    rw [this, ← List.append_assoc]
    exact ih
theorem take_at {rs : List Rw} {i j : Nat} {r : Rw} : (rs.take j)[i]? = some r ↔ i < j ∧ rs[i]? = some r := by
  rw [List.getElem?_take]
  split
  · rename_i h; exact ⟨fun z => ⟨h, z⟩, fun z => z.2⟩
  · rename_i h; exact ⟨fun z => (by cases z), fun z => absurd z.1 h⟩
section
variable {rs : List Rw} {tk ls : List Str}
theorem s1 (h : strt tk rs) {i : Nat} {r : Rw} {x : Str} (e : rs[i]? = some r) (s : r.sets = some x) : x ∉ tk := fun hx => (strt_at h e).2 x s (List.mem_append_left _ hx)
theorem s2 (h : strt tk rs) {i j : Nat} {r q : Rw} {x : Str} (e : rs[i]? = some r) (s : r.sets = some x) (e2 : rs[j]? = some q) (t : q.sets = some x) : i = j := by
  have aux : ∀ {i j : Nat} {r q : Rw}, rs[i]? = some r → r.sets = some x → rs[j]? = some q → q.sets = some x → ¬ i < j := fun {i j r q} e s e2 t hij =>
    (strt_at h e2).2 x t (List.mem_append_right _ (mem_setsL.mpr ⟨i, r, take_at.mpr ⟨hij, e⟩, s⟩))
  have a1 := aux e s e2 t
  have a2 := aux e2 t e s
  omega
theorem s3 (h : strt tk rs) {i j : Nat} {r q : Rw} {x : Str} (e : rs[i]? = some r) (s : r.sets = some x) (e2 : rs[j]? = some q) (t : x ∈ q.needs) : i < j := by
  rcases List.mem_append.mp ((strt_at h e2).1 x t) with hx | hx
  · exact absurd hx (s1 h e s)
  · obtain ⟨k, r', k1, k2⟩ := mem_setsL.mp hx
    obtain ⟨k3, k4⟩ := take_at.mp k1
    have := s2 h e s k4 k2
    omega
/-- who stands, plainly -/
def Up (rs : List Rw) (ls : List Str) (x : Str) (pl : Nat) (b : Nat) : Prop := x ∈ ls ∨ (∃ (j : Nat) (r : Rw), rs[j]? = some r ∧ x ∈ r.needs ∧ pl ≤ j) ∨ (x ∉ needsL rs ∧ pl ≤ b)
theorem mem_stretch {x : Str} {b e : Int} : (x, (b, e)) ∈ stretchS tk rs ls ↔ ∃ e0, ((x ∈ tk ∧ b = 0 ∧ e0 = useE 0 rs x 0) ∨ (x, (b, e0)) ∈ newS 0 rs) ∧ e = if x ∈ ls then (rs.length : Int) else e0 := by
  unfold stretchS
  rw [updEs_map, rowsS_eq, List.map_map]
  constructor
  · intro h
    obtain ⟨p, hp, e1⟩ := List.mem_map.mp h
    rcases List.mem_append.mp hp with h1 | h1
    · obtain ⟨y, hy, rfl⟩ := List.mem_map.mp h1
      dsimp only [Function.comp] at e1
      refine ⟨useE 0 rs y 0, ?_⟩
      split at e1
      · rename_i hl
        cases e1
        exact ⟨.inl ⟨hy, rfl, rfl⟩, by rw [if_pos hl]⟩
      · rename_i hl
        cases e1
        exact ⟨.inl ⟨hy, rfl, rfl⟩, by rw [if_neg hl]⟩
    · obtain ⟨y, b', e'⟩ := p
      dsimp only at e1
      refine ⟨e', ?_⟩
      split at e1
      · rename_i hl
        cases e1
        exact ⟨.inr h1, by rw [if_pos hl]⟩
      · rename_i hl
        cases e1
        exact ⟨.inr h1, by rw [if_neg hl]⟩
  · rintro ⟨e0, h, he⟩
    refine List.mem_map.mpr ⟨(x, (b, e0)), ?_, ?_⟩
    · refine List.mem_append.mpr ?_
      rcases h with ⟨h1, rfl, rfl⟩ | h1
      · exact .inl (List.mem_map.mpr ⟨x, h1, rfl⟩)
      · exact .inr h1
    · dsimp only
      split
      · rename_i hl; rw [he, if_pos hl]
      · rename_i hl; rw [he, if_neg hl]
theorem mem_stands {x : Str} (h : strt tk rs) {pl : Nat} (hp : pl ≤ rs.length) : x ∈ stands (stretchS tk rs ls) (pl : Nat) ↔ (x ∈ tk ∧ Up rs ls x pl 0) ∨ (∃ (i : Nat) (r : Rw), rs[i]? = some r ∧ r.sets = some x ∧ i + 1 ≤ pl ∧ Up rs ls x pl (i + 1)) := by
  have hs : x ∈ stands (stretchS tk rs ls) (pl : Nat) ↔ ∃ b e : Int, (x, (b, e)) ∈ stretchS tk rs ls ∧ b ≤ pl ∧ (pl : Int) ≤ e := by
    unfold stands
    rw [List.mem_map]
    constructor
    · rintro ⟨⟨y, b, e⟩, h1, rfl⟩
      obtain ⟨h2, h3⟩ := List.mem_filter.mp h1
      rw [Bool.and_eq_true] at h3
      exact ⟨b, e, h2, of_decide_eq_true h3.1, of_decide_eq_true h3.2⟩
    · rintro ⟨b, e, h1, h2, h3⟩
      exact ⟨(x, (b, e)), List.mem_filter.mpr ⟨h1, by rw [Bool.and_eq_true]; exact ⟨decide_eq_true h2, decide_eq_true h3⟩⟩, rfl⟩
  rw [hs]
  -- a taken name's end
  have u0 : (pl : Int) ≤ (if x ∈ ls then (rs.length : Int) else useE 0 rs x 0) ↔ Up rs ls x pl 0 := by
    unfold Up
    by_cases hl : x ∈ ls
    · rw [if_pos hl]
      exact ⟨fun _ => .inl hl, fun _ => by omega⟩
    · rw [if_neg hl, use_le (by omega)]
      constructor
      · rintro (⟨i, r, a, b, c⟩ | ⟨a, b⟩)
        · exact .inr (.inl ⟨i, r, a, b, by omega⟩)
        · exact .inr (.inr ⟨a, by omega⟩)
      · rintro (a | ⟨i, r, a, b, c⟩ | ⟨a, b⟩)
        · exact absurd a hl
        · exact .inl ⟨i, r, a, b, by omega⟩
        · exact .inr ⟨a, by omega⟩
  have u1 : ∀ (i : Nat) (r : Rw), rs[i]? = some r → r.sets = some x → ((pl : Int) ≤ (if x ∈ ls then (rs.length : Int) else useE ((0 : Int) + i + 1) (rs.drop (i + 1)) x ((0 : Int) + i + 1)) ↔ Up rs ls x pl (i + 1)) := fun i r e s => by
    unfold Up
    by_cases hl : x ∈ ls
    · rw [if_pos hl]
      exact ⟨fun _ => .inl hl, fun _ => by omega⟩
    · rw [if_neg hl, use_le (by omega)]
      constructor
      · rintro (⟨j, q, a, b, c⟩ | ⟨a, b⟩)
        · rw [List.getElem?_drop] at a
          exact .inr (.inl ⟨i + 1 + j, q, a, b, by omega⟩)
        · refine .inr (.inr ⟨fun z => a ?_, by omega⟩)
          obtain ⟨j, q, j1, j2⟩ := mem_needsL.mp z
          have := s3 h e s j1 j2
          refine mem_needsL.mpr ⟨j - (i + 1), q, ?_, j2⟩
          rw [List.getElem?_drop, show i + 1 + (j - (i + 1)) = j by omega]; exact j1
      · rintro (a | ⟨j, q, a, b, c⟩ | ⟨a, b⟩)
        · exact absurd a hl
        · have := s3 h e s a b
          refine .inl ⟨j - (i + 1), q, ?_, b, by omega⟩
          rw [List.getElem?_drop, show i + 1 + (j - (i + 1)) = j by omega]; exact a
        · refine .inr ⟨fun z => a ?_, by omega⟩
          obtain ⟨j, q, j1, j2⟩ := mem_needsL.mp z
          rw [List.getElem?_drop] at j1
          exact mem_needsL.mpr ⟨_, q, j1, j2⟩
  constructor
  · rintro ⟨b, e, h1, h2, h3⟩
    obtain ⟨e0, h4, h5⟩ := mem_stretch.mp h1
    subst h5
    rcases h4 with ⟨h6, rfl, rfl⟩ | h6
    · exact .inl ⟨h6, u0.mp h3⟩
    · obtain ⟨i, r, i1, i2, i3, i4⟩ := mem_newS.mp h6
      subst i4
      exact .inr ⟨i, r, i1, i2, by omega, (u1 i r i1 i2).mp h3⟩
  · rintro (⟨h6, h7⟩ | ⟨i, r, i1, i2, i3, i4⟩)
    · exact ⟨0, _, mem_stretch.mpr ⟨_, .inl ⟨h6, rfl, rfl⟩, rfl⟩, by omega, u0.mpr h7⟩
    · exact ⟨(0 : Int) + i + 1, _, mem_stretch.mpr ⟨_, .inr (mem_newS.mpr ⟨i, r, i1, i2, rfl, rfl⟩), rfl⟩, by omega, (u1 i r i1 i2).mpr i4⟩
end
end K9

set_option Elab.async false
set_option linter.all false
set_option maxRecDepth 100000
set_option maxHeartbeats 4000000
/-! k09, part R: the law's own count is who stands. -/
namespace K9
open PySem PySem.Spec PyProof.Rows L2 PV
def lastL (rs : List Rw) (used : List Str) : Nat → List Str
  | 0 => []
  | p + 1 => match rs[p]? with
    | some r => match r.sets with
      | some x => if x ∈ used then [] else [x]
      | none => []
    | none => []
theorem lastL_succ (rs : List Rw) (used : List Str) (p : Nat) : lastL rs used (p + 1) = match rs[p]? with
    | some r => match r.sets with
      | some x => if x ∈ used then [] else [x]
      | none => []
    | none => [] := rfl
def lawAt (rs : List Rw) (tk ls : List Str) (pl : Nat) : List Str :=
  ((tk ++ setsL (rs.take pl)).filter fun x => decide (x ∈ ls ++ needsL (rs.drop pl))) ++ lastL rs (ls ++ needsL rs) pl ++ tk.filter fun x => decide (pl = 0) && !decide (x ∈ ls ++ needsL rs)
theorem mem_lastL {rs : List Rw} {used : List Str} {pl : Nat} {x : Str} : x ∈ lastL rs used pl ↔ ∃ (i : Nat) (r : Rw), pl = i + 1 ∧ rs[i]? = some r ∧ r.sets = some x ∧ x ∉ used := by
  cases pl with
  | zero => exact ⟨fun h => (by cases h), fun ⟨i, r, h, _⟩ => by omega⟩
  | succ p =>
    rw [lastL_succ]
    cases hr : rs[p]? with
    | none => exact ⟨fun h => (by cases h), fun ⟨i, r, h, h2, _⟩ => by
        have : i = p := by omega
        subst this; rw [hr] at h2; cases h2⟩
    | some r =>
      dsimp only
      cases hs : r.sets with
      | none => exact ⟨fun h => (by cases h), fun ⟨i, q, h, h2, h3, _⟩ => by
          have : i = p := by omega
          subst this; rw [hr] at h2; cases h2; rw [hs] at h3; cases h3⟩
      | some y =>
        dsimp only
        constructor
        · intro h
          split at h
          · cases h
          · rename_i hu
            have := List.mem_singleton.mp h
            subst this
            exact ⟨p, r, rfl, hr, hs, hu⟩
        · rintro ⟨i, q, h, h2, h3, h4⟩
          have : i = p := by omega
          subst this; rw [hr] at h2; cases h2; rw [hs] at h3; cases h3
          rw [if_neg h4]; exact List.mem_singleton.mpr rfl
theorem mem_lawAt {rs : List Rw} {tk ls : List Str} {pl : Nat} {x : Str} (h : strt tk rs) : x ∈ lawAt rs tk ls pl ↔ (x ∈ tk ∧ Up rs ls x pl 0) ∨ (∃ (i : Nat) (r : Rw), rs[i]? = some r ∧ r.sets = some x ∧ i + 1 ≤ pl ∧ Up rs ls x pl (i + 1)) := by
  have later : x ∈ ls ++ needsL (rs.drop pl) ↔ x ∈ ls ∨ (∃ (j : Nat) (r : Rw), rs[j]? = some r ∧ x ∈ r.needs ∧ pl ≤ j) := by
    rw [List.mem_append, mem_needsL]
    constructor
    · rintro (a | ⟨i, r, a, b⟩)
      · exact .inl a
      · rw [List.getElem?_drop] at a
        exact .inr ⟨_, r, a, b, by omega⟩
    · rintro (a | ⟨i, r, a, b, c⟩)
      · exact .inl a
      · refine .inr ⟨i - pl, r, ?_, b⟩
        rw [List.getElem?_drop, show pl + (i - pl) = i by omega]; exact a
  have used : x ∈ ls ++ needsL rs ↔ x ∈ ls ∨ x ∈ needsL rs := List.mem_append
  have ahead : x ∈ tk ++ setsL (rs.take pl) ↔ x ∈ tk ∨ ∃ (i : Nat) (r : Rw), rs[i]? = some r ∧ r.sets = some x ∧ i + 1 ≤ pl := by
    rw [List.mem_append, mem_setsL]
    constructor
    · rintro (a | ⟨i, r, a, b⟩)
      · exact .inl a
      · obtain ⟨c, d⟩ := take_at.mp a
        exact .inr ⟨i, r, d, b, by omega⟩
    · rintro (a | ⟨i, r, a, b, c⟩)
      · exact .inl a
      · exact .inr ⟨i, r, take_at.mpr ⟨by omega, a⟩, b⟩
  unfold lawAt
  rw [List.mem_append, List.mem_append, List.mem_filter, List.mem_filter, decide_eq_true_iff, later, ahead, mem_lastL]
  unfold Up
  constructor
  · rintro ((⟨a, b⟩ | ⟨i, r, rfl, a, b, c⟩) | ⟨a, b⟩)
    · rcases a with a | ⟨i, r, a, a2, a3⟩
      · exact .inl ⟨a, by rcases b with b | b; exact .inl b; exact .inr (.inl b)⟩
      · exact .inr ⟨i, r, a, a2, a3, by rcases b with b | b; exact .inl b; exact .inr (.inl b)⟩
    · exact .inr ⟨i, r, a, b, Nat.le_refl _, .inr (.inr ⟨fun z => c (used.mpr (.inr z)), Nat.le_refl _⟩)⟩
    · rw [Bool.and_eq_true] at b
      obtain ⟨b1, b2⟩ := b
      have b1 := of_decide_eq_true b1
      have b2 : ¬ (x ∈ ls ++ needsL rs) := by
        intro z
        rw [decide_eq_true z] at b2; cases b2
      rw [used] at b2
      exact .inl ⟨a, .inr (.inr ⟨fun z => b2 (.inr z), by omega⟩)⟩
  · have hb : ∀ b : Nat, (x ∈ ls ∨ (∃ (j : Nat) (r : Rw), rs[j]? = some r ∧ x ∈ r.needs ∧ pl ≤ j) ∨ (x ∉ needsL rs ∧ pl ≤ b)) → (x ∈ ls ∨ (∃ (j : Nat) (r : Rw), rs[j]? = some r ∧ x ∈ r.needs ∧ pl ≤ j)) ∨ (x ∉ ls ∧ x ∉ needsL rs ∧ pl ≤ b) := fun b z => by
      by_cases hl : x ∈ ls
      · exact .inl (.inl hl)
      · rcases z with z | z | z
        · exact absurd z hl
        · exact .inl (.inr z)
        · exact .inr ⟨hl, z⟩
    rintro (⟨a, b⟩ | ⟨i, r, a, b, c, d⟩)
    · rcases hb 0 b with z | ⟨z1, z2, z3⟩
      · exact .inl (.inl ⟨.inl a, z⟩)
      · refine .inr ⟨a, ?_⟩
        rw [Bool.and_eq_true]
        refine ⟨decide_eq_true (by omega), ?_⟩
        rw [decide_eq_false (by rw [used]; exact fun w => w.elim z1 z2)]; rfl
    · rcases hb _ d with z | ⟨z1, z2, z3⟩
      · exact .inl (.inl ⟨.inr ⟨i, r, a, b, c⟩, z⟩)
      · exact .inl (.inr ⟨i, r, by omega, a, b, fun w => (used.mp w).elim z1 z2⟩)
theorem lawAt_nodup {rs : List Rw} {tk ls : List Str} {pl : Nat} (nd : tk.Nodup) (h : strt tk rs) : (lawAt rs tk ls pl).Nodup := by
  have ha : (tk ++ setsL (rs.take pl)).Nodup := by
    have := strt_nodup rs tk nd h
    have e : setsL rs = setsL (rs.take pl) ++ setsL (rs.drop pl) := by
      unfold setsL
      rw [← List.flatten_append, ← List.map_append, List.take_append_drop]
    have this : (tk ++ setsL rs).Nodup := this
    rw [e, ← List.append_assoc] at this
    exact (List.nodup_append.mp this).1
  have hl : (lastL rs (ls ++ needsL rs) pl).Nodup := by
    cases pl with
    | zero => exact List.nodup_nil
    | succ p =>
      rw [lastL_succ]
      cases rs[p]? with
      | none => exact List.nodup_nil
      | some r =>
        dsimp only
        cases r.sets with
        | none => exact List.nodup_nil
        | some y =>
          dsimp only
          split
          · exact List.nodup_nil
          · simp
  have sub : ∀ x, x ∈ ls ++ needsL (rs.drop pl) → x ∈ ls ++ needsL rs := fun x hx => by
    rcases List.mem_append.mp hx with a | a
    · exact List.mem_append_left _ a
    · obtain ⟨i, r, b, c⟩ := mem_needsL.mp a
      rw [List.getElem?_drop] at b
      exact List.mem_append_right _ (mem_needsL.mpr ⟨_, r, b, c⟩)
  unfold lawAt
  refine List.nodup_append.mpr ⟨List.nodup_append.mpr ⟨ha.filter _, hl, fun a hx b hy e => ?_⟩, nd.filter _, fun a hx b hy e => ?_⟩
  · subst e
    obtain ⟨i, r, _, _, _, hu⟩ := mem_lastL.mp hy
    exact hu (sub _ (of_decide_eq_true (List.mem_filter.mp hx).2))
  · subst e
    obtain ⟨y1, y2⟩ := List.mem_filter.mp hy
    rw [Bool.and_eq_true] at y2
    have p0 := of_decide_eq_true y2.1
    have nu : a ∉ ls ++ needsL rs := fun z => by
      have := y2.2
      rw [decide_eq_true z] at this; cases this
    rcases List.mem_append.mp hx with z | z
    · exact nu (sub _ (of_decide_eq_true (List.mem_filter.mp z).2))
    · obtain ⟨i, r, e1, _⟩ := mem_lastL.mp z
      omega
theorem stretchS_keys (rs : List Rw) (tk ls : List Str) : (stretchS tk rs ls).map (·.1) = tk ++ setsL rs := by
  unfold stretchS
  rw [updEs_keys, rowsS_keys, List.map_map]
  congr 1
  exact List.map_id _
theorem stands_nodup {S : Sts} (h : (S.map (·.1)).Nodup) (pl : Int) : (stands S pl).Nodup := by
  unfold stands
  exact h.sublist ((List.filter_sublist ..).map _)
theorem stands_perm {rs : List Rw} {tk ls : List Str} {pl : Nat} (nd : tk.Nodup) (h : strt tk rs) (hp : pl ≤ rs.length) : (stands (stretchS tk rs ls) (pl : Nat)).Perm (lawAt rs tk ls pl) :=
  (List.perm_ext_iff_of_nodup (stands_nodup (by rw [stretchS_keys]; exact strt_nodup rs tk nd h) _) (lawAt_nodup nd h)).mpr fun x => (mem_stands h hp).trans (mem_lawAt h).symm
end K9

set_option Elab.async false
set_option linter.all false
set_option maxRecDepth 100000
set_option maxHeartbeats 4000000
/-! k09, part S: hands dealt in order are few and unlike. -/
namespace K9
open PySem PySem.Spec PyProof.Rows L2 PV
abbrev Dl := List (Str × Int)
def hv (dl : Dl) (x : Str) : Option Int := (dl.find? fun p => decide (p.1 = x)).map (·.2)
def takenL (S : Sts) (dl : Dl) (b : Int) : List Int := ((stands S b).filter fun x => (hv dl x).isSome).map fun x => (hv dl x).getD 0
def freeL (n : Nat) (t : List Int) : List Int := ((List.range n).map fun i => ((i : Nat) : Int)).filter fun h => !decide (h ∈ t)
def handF (S : Sts) (dl : Dl) (b : Int) : Int := (minI (freeL S.length (takenL S dl b))).getD 0
def deal (S : Sts) : Sts → Dl → Dl
  | [], dl => dl
  | p :: r, dl => deal S r (dl ++ [(p.1, handF S dl p.2.1)])
theorem foldl_min : ∀ (l : List Int) (x : Int), l.foldl min x ≤ x ∧ (∀ y ∈ l, l.foldl min x ≤ y) ∧ (l.foldl min x = x ∨ l.foldl min x ∈ l)
  | [], x => ⟨Int.le_refl _, fun y h => (by cases h), .inl rfl⟩
  | y :: l, x => by
    obtain ⟨a, b, c⟩ := foldl_min l (min x y)
    refine ⟨Int.le_trans a (Int.min_le_left ..), fun z hz => ?_, ?_⟩
    · rcases List.mem_cons.mp hz with rfl | hz
      · exact Int.le_trans a (Int.min_le_right ..)
      · exact b z hz
    · show l.foldl min (min x y) = x ∨ l.foldl min (min x y) ∈ y :: l
      rcases c with c | c
      · rw [c]
        by_cases h : x ≤ y
        · exact .inl (by omega)
        · exact .inr (by rw [show min x y = y by omega]; exact List.mem_cons_self ..)
      · exact .inr (List.mem_cons_of_mem _ c)
theorem foldl_max : ∀ (l : List Int) (x : Int), x ≤ l.foldl max x ∧ (∀ y ∈ l, y ≤ l.foldl max x) ∧ (l.foldl max x = x ∨ l.foldl max x ∈ l)
  | [], x => ⟨Int.le_refl _, fun y h => (by cases h), .inl rfl⟩
  | y :: l, x => by
    obtain ⟨a, b, c⟩ := foldl_max l (max x y)
    refine ⟨Int.le_trans (Int.le_max_left ..) a, fun z hz => ?_, ?_⟩
    · rcases List.mem_cons.mp hz with rfl | hz
      · exact Int.le_trans (Int.le_max_right ..) a
      · exact b z hz
    · show l.foldl max (max x y) = x ∨ l.foldl max (max x y) ∈ y :: l
      rcases c with c | c
      · rw [c]
        by_cases h : y ≤ x
        · exact .inl (by omega)
        · exact .inr (by rw [show max x y = y by omega]; exact List.mem_cons_self ..)
      · exact .inr (List.mem_cons_of_mem _ c)
theorem minI_spec {l : List Int} (h : l ≠ []) : ∃ m, minI l = some m ∧ m ∈ l ∧ ∀ y ∈ l, m ≤ y := by
  cases l with
  | nil => exact absurd rfl h
  | cons x l =>
    obtain ⟨a, b, c⟩ := foldl_min l x
    refine ⟨_, rfl, ?_, fun y hy => ?_⟩
    · rcases c with c | c
      · rw [c]; exact List.mem_cons_self ..
      · exact List.mem_cons_of_mem _ c
    · rcases List.mem_cons.mp hy with rfl | hy
      · exact a
      · exact b y hy
theorem maxI_spec {l : List Int} (h : l ≠ []) : ∃ m, maxI l = some m ∧ m ∈ l ∧ ∀ y ∈ l, y ≤ m := by
  cases l with
  | nil => exact absurd rfl h
  | cons x l =>
    obtain ⟨a, b, c⟩ := foldl_max l x
    refine ⟨_, rfl, ?_, fun y hy => ?_⟩
    · rcases c with c | c
      · rw [c]; exact List.mem_cons_self ..
      · exact List.mem_cons_of_mem _ c
    · rcases List.mem_cons.mp hy with rfl | hy
      · exact a
      · exact b y hy
theorem php : ∀ (n : Nat) (t : List Int), (∀ i : Nat, i < n → (i : Int) ∈ t) → n ≤ t.length
  | 0, t, _ => Nat.zero_le _
  | n + 1, t, h => by
    have hn := h n (Nat.lt_succ_self _)
    have := php n (t.erase (n : Int)) fun i hi => (List.mem_erase_of_ne (by omega)).mpr (h i (by omega))
    rw [List.length_erase_of_mem hn] at this
    have : 0 < t.length := List.length_pos_of_mem hn
    omega
theorem free_ok {n : Nat} {t : List Int} (h : t.length < n) : ∃ m, minI (freeL n t) = some m ∧ m ∉ t ∧ 0 ≤ m ∧ m ≤ t.length := by
  have : ∃ i : Nat, i < t.length + 1 ∧ (i : Int) ∉ t := by
    refine Classical.byContradiction fun hh => ?_
    have := php (t.length + 1) t fun i hi => Classical.byContradiction fun z => hh ⟨i, hi, z⟩
    omega
  obtain ⟨i, hi, hn⟩ := this
  have hm : (i : Int) ∈ freeL n t := List.mem_filter.mpr ⟨List.mem_map.mpr ⟨i, List.mem_range.mpr (by omega), rfl⟩, by rw [decide_eq_false hn]; rfl⟩
  obtain ⟨m, m1, m2, m3⟩ := minI_spec (List.ne_nil_of_mem hm)
  obtain ⟨a, b⟩ := List.mem_filter.mp m2
  obtain ⟨j, _, rfl⟩ := List.mem_map.mp a
  have := m3 _ hm
  refine ⟨_, m1, fun z => ?_, by omega, by omega⟩
  rw [decide_eq_true z] at b; cases b
/-- hands dealt: each stretch with its hand -/
abbrev Al := List ((Str × (Int × Int)) × Int)
def dlOf (A : Al) : Dl := A.map fun a => (a.1.1, a.2)
def stB (pl : Int) (p : Str × (Int × Int)) : Bool := decide (p.2.1 ≤ pl) && decide (pl ≤ p.2.2)
structure Good (S : Sts) (M : Int) (A : Al) (rest : Sts) : Prop where
  sp : S = A.map (·.1) ++ rest
  lt : ∀ a ∈ A, 0 ≤ a.2 ∧ a.2 < M
  un : A.Pairwise fun a b => ∀ pl : Int, stB pl a.1 = true → stB pl b.1 = true → a.2 ≠ b.2
theorem hv_in {A : Al} (nd : ((A.map (·.1)).map (·.1)).Nodup) {a : (Str × (Int × Int)) × Int} (ha : a ∈ A) : hv (dlOf A) a.1.1 = some a.2 := by
  induction A with
  | nil => cases ha
  | cons b A ih =>
    rw [List.map_cons, List.map_cons, List.nodup_cons] at nd
    unfold hv dlOf
    rw [List.map_cons, List.find?_cons]
    rcases List.mem_cons.mp ha with rfl | ha
    · rw [decide_eq_true rfl]; rfl
    · have ne : decide (b.1.1 = a.1.1) = false := decide_eq_false fun z => nd.1 (by rw [z]; exact List.mem_map.mpr ⟨a.1, List.mem_map.mpr ⟨a, ha, rfl⟩, rfl⟩)
      rw [ne]
      exact ih nd.2 ha
theorem hv_out {dl : Dl} {x : Str} (h : x ∉ dl.map (·.1)) : hv dl x = none := by
  unfold hv
  rw [Option.map_eq_none_iff, List.find?_eq_none]
  intro p hp z
  exact h (List.mem_map.mpr ⟨p, hp, of_decide_eq_true z⟩)
theorem dlOf_keys (A : Al) : (dlOf A).map (·.1) = (A.map (·.1)).map (·.1) := by
  unfold dlOf
  rw [List.map_map, List.map_map]; rfl
theorem mem_std {S : Sts} {pl : Int} {p : Str × (Int × Int)} (h : p ∈ S) (hb : stB pl p = true) : p.1 ∈ stands S pl := List.mem_map.mpr ⟨p, List.mem_filter.mpr ⟨h, hb⟩, rfl⟩
theorem good_step {S : Sts} {M : Int} {A : Al} {p : Str × (Int × Int)} {rest : Sts} (nd : (S.map (·.1)).Nodup) (srt : S.Pairwise fun p q => p.2.1 ≤ q.2.1) (be : ∀ p ∈ S, p.2.1 ≤ p.2.2) (hM : ∀ p ∈ S, ((stands S p.2.1).length : Int) ≤ M) (g : Good S M A (p :: rest)) : Good S M (A ++ [(p, handF S (dlOf A) p.2.1)]) rest := by
  have hpS : p ∈ S := by rw [g.sp]; exact List.mem_append_right _ (List.mem_cons_self ..)
  have ndA : ((A.map (·.1)).map (·.1)).Nodup := by
    have := nd
    rw [g.sp, List.map_append] at this
    exact (List.nodup_append.mp this).1
  have hout : p.1 ∉ (A.map (·.1)).map (·.1) := fun z => by
    have := nd
    rw [g.sp, List.map_append] at this
    exact (List.nodup_append.mp this).2.2 _ z _ (by rw [List.map_cons]; exact List.mem_cons_self ..) rfl
  have hself : p.1 ∈ stands S p.2.1 := mem_std hpS (by unfold stB; rw [decide_eq_true (Int.le_refl _), decide_eq_true (be p hpS)]; rfl)
  have hlt : (takenL S (dlOf A) p.2.1).length < (stands S p.2.1).length := by
    unfold takenL
    rw [List.length_map]
    refine List.length_filter_lt_length_iff_exists.mpr ⟨p.1, hself, ?_⟩
    rw [hv_out (by rw [dlOf_keys]; exact hout)]
    simp
  have hle : (stands S p.2.1).length ≤ S.length := by
    unfold stands
    rw [List.length_map]
    exact List.length_filter_le ..
  obtain ⟨m, m1, m2, m3, m4⟩ := free_ok (n := S.length) (t := takenL S (dlOf A) p.2.1) (by omega)
  have hh : handF S (dlOf A) p.2.1 = m := by unfold handF; rw [m1]; rfl
  rw [hh]
  have hMp := hM p hpS
  refine ⟨by rw [g.sp]; simp, fun a ha => ?_, ?_⟩
  · rcases List.mem_append.mp ha with ha | ha
    · exact g.lt a ha
    · have := List.mem_singleton.mp ha
      subst this
      exact ⟨m3, by show m < M; omega⟩
  · rw [List.pairwise_append]
    refine ⟨g.un, List.pairwise_singleton .., fun a ha b hb => ?_⟩
    have := List.mem_singleton.mp hb
    subst this
    intro pl h1 h2 e
    have haS : a.1 ∈ S := by rw [g.sp]; exact List.mem_append_left _ (List.mem_map.mpr ⟨a, ha, rfl⟩)
    have hle2 : a.1.2.1 ≤ p.2.1 := by
      have := srt
      rw [g.sp, List.pairwise_append] at this
      exact this.2.2 _ (List.mem_map.mpr ⟨a, ha, rfl⟩) _ (List.mem_cons_self ..)
    unfold stB at h1 h2
    rw [Bool.and_eq_true, decide_eq_true_iff, decide_eq_true_iff] at h1 h2
    have hs : a.1.1 ∈ stands S p.2.1 := mem_std haS (by unfold stB; rw [decide_eq_true hle2, decide_eq_true (show p.2.1 ≤ a.1.2.2 by have := h2.1; have := h1.2; dsimp only at *; omega)]; rfl)
    refine m2 (List.mem_map.mpr ⟨a.1.1, List.mem_filter.mpr ⟨hs, by rw [hv_in ndA ha]; rfl⟩, ?_⟩)
    rw [hv_in ndA ha]
    exact e
theorem good_all {S : Sts} {M : Int} (nd : (S.map (·.1)).Nodup) (srt : S.Pairwise fun p q => p.2.1 ≤ q.2.1) (be : ∀ p ∈ S, p.2.1 ≤ p.2.2) (hM : ∀ p ∈ S, ((stands S p.2.1).length : Int) ≤ M) : ∀ (rest : Sts) (A : Al), Good S M A rest → ∃ A', deal S rest (dlOf A) = dlOf A' ∧ Good S M A' []
  | [], A, g => ⟨A, rfl, g⟩
  | p :: rest, A, g => by
    have g' := good_step nd srt be hM g
    obtain ⟨A', h1, h2⟩ := good_all nd srt be hM rest _ g'
    refine ⟨A', ?_, h2⟩
    rw [← h1]
    show deal S rest (dlOf A ++ [(p.1, handF S (dlOf A) p.2.1)]) = _
    congr 1
    unfold dlOf
    rw [List.map_append]; rfl
/-- what is dealt, is right -/
theorem deal_ok {S : Sts} {M : Int} (nd : (S.map (·.1)).Nodup) (srt : S.Pairwise fun p q => p.2.1 ≤ q.2.1) (be : ∀ p ∈ S, p.2.1 ≤ p.2.2) (hM : ∀ p ∈ S, ((stands S p.2.1).length : Int) ≤ M) :
    (deal S S []).map (·.1) = S.map (·.1) ∧ (∀ q ∈ deal S S [], 0 ≤ q.2 ∧ q.2 < M) ∧ ∀ pl : Int, ((stands S pl).map fun x => (hv (deal S S []) x).getD 0).Nodup := by
  obtain ⟨A, h1, g⟩ := good_all nd srt be hM S [] ⟨rfl, fun a h => (by cases h), List.Pairwise.nil⟩
  have h1 : deal S S [] = dlOf A := h1
  have hS : S = A.map (·.1) := by have := g.sp; rw [List.append_nil] at this; exact this
  rw [h1]
  refine ⟨by rw [dlOf_keys, hS], fun q hq => ?_, fun pl => ?_⟩
  · obtain ⟨a, ha, rfl⟩ := List.mem_map.mp hq
    exact g.lt a ha
  · have ndA : ((A.map (·.1)).map (·.1)).Nodup := by rw [← hS]; exact nd
    have e : (stands S pl).map (fun x => (hv (dlOf A) x).getD 0) = (A.filter fun a => stB pl a.1).map (·.2) := by
      unfold stands
      rw [hS, List.filter_map, List.map_map, List.map_map]
      refine List.map_congr_left fun a ha => ?_
      show (hv (dlOf A) a.1.1).getD 0 = a.2
      rw [hv_in ndA (List.mem_filter.mp ha).1]; rfl
    rw [e]
    unfold List.Nodup
    rw [List.pairwise_map, List.pairwise_filter]
    exact g.un.imp fun {a b} h h1 h2 => h pl h1 h2
end K9

set_option Elab.async false
set_option linter.all false
set_option maxRecDepth 100000
set_option maxHeartbeats 4000000
/-! k09, part T: order of stretches; due, plainly. -/
namespace K9
open PySem PySem.Spec PyProof.Rows L2 PV
theorem use_ge : ∀ {rs : List Rw} {a : Int} {x : Str} {e : Int}, e ≤ a → e ≤ useE a rs x e
  | [], a, x, e, _ => Int.le_refl _
  | r :: rs, a, x, e, h => by
    show e ≤ useE (a + 1) rs x (if x ∈ r.needs then a else e)
    have := use_ge (rs := rs) (a := a + 1) (x := x) (e := if x ∈ r.needs then a else e) (by split <;> omega)
    refine Int.le_trans ?_ this
    split <;> omega
theorem newS_begin {rs : List Rw} {a : Int} {p : Str × (Int × Int)} (h : p ∈ newS a rs) : a + 1 ≤ p.2.1 := by
  obtain ⟨x, b, e⟩ := p
  obtain ⟨i, r, _, _, h3, _⟩ := mem_newS.mp h
  show a + 1 ≤ b
  omega
theorem newS_sorted : ∀ (rs : List Rw) (a : Int), (newS a rs).Pairwise fun p q => p.2.1 ≤ q.2.1
  | [], a => List.Pairwise.nil
  | r :: rs, a => by
    unfold newS
    rw [List.pairwise_append]
    refine ⟨?_, newS_sorted rs (a + 1), fun p hp q hq => ?_⟩
    · cases r.sets with
      | none => exact List.Pairwise.nil
      | some x => exact List.pairwise_singleton ..
    · have := newS_begin hq
      cases hs : r.sets with
      | none => rw [hs] at hp; cases hp
      | some x =>
        rw [hs] at hp
        have := List.mem_singleton.mp hp
        subst this
        show a + 1 ≤ q.2.1
        omega
theorem updEs_sorted {S : Sts} (h : S.Pairwise fun p q => p.2.1 ≤ q.2.1) (ys : List Str) (e : Int) : (updEs S ys e).Pairwise fun p q => p.2.1 ≤ q.2.1 := by
  rw [updEs_map, List.pairwise_map]
  refine h.imp fun {a b} hab => ?_
  have e1 : ∀ p : Str × (Int × Int), (if p.1 ∈ ys then (p.1, (p.2.1, e)) else p).2.1 = p.2.1 := fun p => by split <;> rfl
  rw [e1, e1]; exact hab
section
variable {rs : List Rw} {tk ls : List Str}
theorem stretch_sorted : (stretchS tk rs ls).Pairwise fun p q => p.2.1 ≤ q.2.1 := by
  unfold stretchS
  refine updEs_sorted ?_ _ _
  rw [rowsS_eq, List.map_map, List.pairwise_append]
  refine ⟨?_, newS_sorted rs 0, fun p hp q hq => ?_⟩
  · rw [List.pairwise_map]
    exact List.pairwise_of_forall fun _ _ => Int.le_refl _
  · obtain ⟨y, _, rfl⟩ := List.mem_map.mp hp
    have := newS_begin hq
    show (0 : Int) ≤ _
    omega
theorem stretch_be {p : Str × (Int × Int)} (h : p ∈ stretchS tk rs ls) : p.2.1 ≤ p.2.2 ∧ ∃ i : Nat, p.2.1 = i ∧ i ≤ rs.length := by
  obtain ⟨x, b, e⟩ := p
  obtain ⟨e0, h1, h2⟩ := mem_stretch.mp h
  show b ≤ e ∧ ∃ i : Nat, b = i ∧ i ≤ rs.length
  rcases h1 with ⟨_, rfl, h3⟩ | h1
  · refine ⟨?_, 0, rfl, Nat.zero_le _⟩
    rw [h2]
    split
    · omega
    · rw [h3]; exact use_ge (Int.le_refl _)
  · obtain ⟨i, r, a1, a2, a3, a4⟩ := mem_newS.mp h1
    have : i < rs.length := by
      obtain ⟨h, _⟩ := List.getElem?_eq_some_iff.mp a1
      exact h
    refine ⟨?_, i + 1, by omega, by omega⟩
    rw [h2]
    split
    · omega
    · rw [a4]
      have := use_ge (rs := rs.drop (i + 1)) (a := (0 : Int) + i + 1) (x := x) (e := (0 : Int) + i + 1) (Int.le_refl _)
      omega
end
theorem sortK_id {α : Type} : ∀ (l : List (Int × α)), (l.Pairwise fun a b => a.1 ≤ b.1) → sortK l = l
  | [], _ => rfl
  | x :: r, h => by
    rw [List.pairwise_cons] at h
    show insK x (sortK r) = _
    rw [sortK_id r h.2]
    cases r with
    | nil => rfl
    | cons y r =>
      show (if x.1 ≤ y.1 then x :: y :: r else y :: insK x r) = _
      rw [if_pos (h.1 y (List.mem_cons_self ..))]
/-- how many stand, place by place -/
def cntL (S : Sts) (n : Nat) : List Int := (List.range (n + 1)).map fun i => ((stands S (i : Nat)).length : Int)
def bigM (S : Sts) (n : Nat) : Int := (maxI (cntL S n)).getD 0
theorem big_ok (S : Sts) (n : Nat) : maxI (cntL S n) = some (bigM S n) ∧ bigM S n ∈ cntL S n ∧ ∀ y ∈ cntL S n, y ≤ bigM S n := by
  obtain ⟨m, h1, h2, h3⟩ := maxI_spec (l := cntL S n) (by
    unfold cntL
    rw [List.range_succ]; simp)
  have : bigM S n = m := by unfold bigM; rw [h1]; rfl
  rw [this]; exact ⟨h1, h2, h3⟩
theorem index_ok : ∀ {l : List Int} {m : Int}, m ∈ l → ∃ i, indexD (l.map D.int) (.int m) = some i ∧ l[i]? = some m
  | [], m, h => by cases h
  | x :: l, m, h => by
    show ∃ i, (if (x == m) = true then some 0 else (indexD (l.map D.int) (.int m)).map (· + 1)) = some i ∧ _
    by_cases e : x = m
    · subst e
      exact ⟨0, by rw [if_pos (by simp)], rfl⟩
    · rcases List.mem_cons.mp h with h | h
      · exact absurd h.symm e
      · obtain ⟨i, h1, h2⟩ := index_ok h
        exact ⟨i + 1, by rw [if_neg (by simpa using e), h1]; rfl, by simpa using h2⟩
def handOf (dl : Dl) (x : Str) : Int := (hv dl x).getD 0
def dueP (ks : List Str) (n : Nat) (at_ : Nat → List Str) (M P : Int) (dl : Dl) : Bool :=
  (decide (sortS (dl.map (·.1)) = sortS ks) && (decide (0 ≤ P) && decide (P ≤ n))) && (dl.all (fun q => decide (0 ≤ q.2) && decide (q.2 < M)) && ((List.range (n + 1)).all (fun i => decide (((at_ i).map (handOf dl)).Nodup)) && decide (((at_ P.toNat).length : Int) = M)))
theorem dueP_congr {ks : List Str} {n : Nat} {f g : Nat → List Str} {M P : Int} {dl : Dl} (h : ∀ i, i ≤ n → (f i).Perm (g i)) : dueP ks n f M P dl = dueP ks n g M P dl := by
  unfold dueP
  have h1 : (List.range (n + 1)).all (fun i => decide (((f i).map (handOf dl)).Nodup)) = (List.range (n + 1)).all (fun i => decide (((g i).map (handOf dl)).Nodup)) := by
    rw [Bool.eq_iff_iff, List.all_eq_true, List.all_eq_true]
    refine forall_congr' fun i => imp_congr_right fun hi => ?_
    rw [decide_eq_true_iff, decide_eq_true_iff]
    have := (h i (by have := List.mem_range.mp hi; omega)).map (handOf dl)
    exact this.nodup_iff
  rw [h1]
  by_cases hP : P ≤ n
  · by_cases h0 : 0 ≤ P
    · rw [(h P.toNat (by omega)).length_eq]
    · rw [decide_eq_false h0]; simp
  · rw [decide_eq_false hP]; simp
/-- what fewest answers, is due -/
theorem due_true {rs : List Rw} {tk ls : List Str} (nd : tk.Nodup) (h : strt tk rs) {P : Nat} (hP : (cntL (stretchS tk rs ls) rs.length)[P]? = some (bigM (stretchS tk rs ls) rs.length)) :
    dueP (tk ++ setsL rs) rs.length (fun i => stands (stretchS tk rs ls) (i : Nat)) (bigM (stretchS tk rs ls) rs.length) P (deal (stretchS tk rs ls) (stretchS tk rs ls) []) = true := by
  obtain ⟨b1, b2, b3⟩ := big_ok (stretchS tk rs ls) rs.length
  have hk := stretchS_keys rs tk ls
  obtain ⟨d1, d2, d3⟩ := deal_ok (S := stretchS tk rs ls) (M := bigM (stretchS tk rs ls) rs.length) (by rw [hk]; exact strt_nodup rs tk nd h) stretch_sorted (fun p hp => (stretch_be hp).1) (fun p hp => by
    obtain ⟨_, i, e, hi⟩ := stretch_be hp
    refine b3 _ ?_
    unfold cntL
    exact List.mem_map.mpr ⟨i, List.mem_range.mpr (by omega), by rw [e]⟩)
  have hP' : P < rs.length + 1 ∧ ((stands (stretchS tk rs ls) (P : Nat)).length : Int) = bigM (stretchS tk rs ls) rs.length := by
    unfold cntL at hP
    rw [List.getElem?_map] at hP
    obtain ⟨j, j1, j2⟩ := Option.map_eq_some_iff.mp hP
    obtain ⟨hlt, j3⟩ := List.getElem?_eq_some_iff.mp j1
    rw [List.length_range] at hlt
    rw [List.getElem_range] at j3
    subst j3
    exact ⟨hlt, j2⟩
  unfold dueP
  rw [d1, hk, decide_eq_true rfl, decide_eq_true (show (0 : Int) ≤ (P : Nat) by omega), decide_eq_true (show ((P : Nat) : Int) ≤ (rs.length : Nat) by omega)]
  rw [List.all_eq_true.mpr (fun q hq => by rw [decide_eq_true (d2 q hq).1, decide_eq_true (d2 q hq).2]; rfl)]
  simp only [Bool.true_and, Bool.and_eq_true]
  exact ⟨List.all_eq_true.mpr fun i _ => decide_eq_true (d3 i), decide_eq_true hP'.2⟩
end K9

set_option Elab.async false
set_option linter.all false
set_option maxRecDepth 100000
set_option maxHeartbeats 4000000
/-! k09, part U: asked_straight refuses nothing here. -/
namespace K9
open PySem PySem.Spec PyProof.Rows L2 PV
theorem nt_of {C : CT} {ρ : Ro} {a : Exp} {k : Nat} {b : Bool} (h : ev C G a ρ = some (k, .bl b)) : ev C G (.nt a) ρ = some (0, .bl !b) := by
  rw [ev, h]
theorem eqd_int (a b : Int) : eqD (.int a) (.int b) = some (decide (a = b)) := by
  show (if SeqAt.shaped (toPy (.int a)) = true ∧ SeqAt.shaped (toPy (.int b)) = true then some (PyData.eqv (toPy (.int a)) (toPy (.int b))) else none) = _
  rw [if_pos ⟨rfl, rfl⟩]
  rfl
theorem all_lc {C : CT} {own : List Nat} {tg : Tg} {it elt : Exp} {ρ : Ro} {α : Type} (q : α → D) (f : α → Bool) {xs : List α} (hi : evI C G it ρ = some (xs.map q)) (h : ∀ x ∈ xs, ∃ ρ1, asg tg (q x) (wipeR ρ own) = some ρ1 ∧ ∃ k, ev C G elt ρ1 = some (k, .bl (f x))) : ev C G (.blt .all (.lc own tg it .yes elt)) ρ = some (0, .bl (xs.all f)) := by
  have l : ev C G (.lc own tg it .yes elt) ρ = some (1, .lst (xs.map fun x => .bl (f x))) := by
    refine ev_lc hi ?_
    exact lc_all q (fun x => .bl (f x)) h
  have b := bools_map f xs
  rw [ev, l]
  simp only [bltD, b, Option.map_some]
  rw [List.all_map]; rfl
theorem unlikeS_nodup : ∀ {xs : List Str}, xs.Nodup → unlikeS xs = xs.length
  | [], _ => rfl
  | x :: xs, h => by
    rw [List.nodup_cons] at h
    show unlikeS xs + (if x ∈ xs then 0 else 1) = _
    rw [if_neg h.1, unlikeS_nodup h.2]; rfl
theorem strsD_map : ∀ xs : List Str, strsD (xs.map D.str) = some xs
  | [] => rfl
  | x :: xs => by
    show (strsD (xs.map D.str)).map (x :: ·) = _
    rw [strsD_map xs]; rfl
theorem lenset_txts {xs : List Str} (h : xs.Nodup) (hl : xs.length ≤ 60) : bltD .lenset (txts xs) = some (0, .int (xs.length : Nat)) := by
  cases xs with
  | nil => rfl
  | cons x xs =>
    show (match intsD ((x :: xs).map D.str) with
    | some ns => if ns.length ≤ 4000 then some (0, D.int (setSize ns)) else none
    | none => match strsD ((x :: xs).map D.str) with
      | some xs => if xs.length ≤ 60 then some (0, D.int (unlikeS xs : Nat)) else none
      | none => none) = _
    have : intsD ((x :: xs).map D.str) = none := rfl
    rw [this, strsD_map]
    dsimp only
    rw [if_pos hl, unlikeS_nodup h]
theorem len_txts (xs : List Str) : bltD .len (txts xs) = some (0, .int (xs.length : Nat)) := by
  show some (0, D.int ((xs.map D.str).length : Nat)) = _
  rw [List.length_map]
theorem are_unlike_ok {xs : List Str} (hp : ∀ x ∈ xs, x ∈ pool) (h : xs.Nodup) (hl : xs.length ≤ 60) : CC 3 (.fn "are_unlike") [txts xs] [] [] = some (0, .bl true) := by
  show runD (CC 2) G W d_are_unlike [txts xs] = _
  refine run_rt (ex_rt (ex_ret (k := 0) (d := .bl true) (evS_ns (and_ok ?_ ?_) rfl)))
  · refine (all_lc D.str (fun _ => true) (xs := xs) rfl fun x hx => ⟨[some (txts xs), some (.str x)], rfl, 0, ?_⟩).trans ?_
    · simp only [ev, evs, List.getElem?_cons_zero, List.getElem?_cons_succ]
      exact is_name_ok (hp x hx)
    · rw [List.all_eq_true.mpr fun _ _ => rfl]
  · show ev (CC 2) G (.cmp .eq (.blt .lenset (.var 0)) (.blt .len (.var 0))) [some (txts xs), none] = _
    simp only [ev, List.getElem?_cons_zero, lenset_txts h hl, len_txts, cmpD, eqd_int, Option.map_some]
    simp
/-- what the law's rows are like -/
structure Right (rs : List Rw) (tk ls : List Str) : Prop where
  rk : ∀ r ∈ rs, r.ok
  rl : rs.length ≤ 20
  tp : ∀ x ∈ tk, x ∈ pool
  tn : tk.Nodup
  tl : tk.length ≤ 8
  lp : ∀ x ∈ ls, x ∈ pool
  ln : ls.Nodup
  ll : ls.length ≤ 8
  st : strt tk rs
  li : ∀ y ∈ ls, y ∈ tk ++ setsL rs
theorem Nms.len {d : D} {xs : List Str} (h : Nms d xs) : bltD .len d = some (0, .int (xs.length : Nat)) := by
  cases h <;> (show some (0, D.int ((xs.map D.str).length : Nat)) = _; rw [List.length_map])
theorem Nms.list {d : D} {xs : List Str} (h : Nms d xs) : bltD .list d = some (1, txts xs) := by
  cases h <;> rfl
theorem Nms.islt {d : D} {xs : List Str} (h : Nms d xs) : bltD .islt d = some (0, .bl true) := by
  cases h <;> rfl
/-- names known -/
def kn (K : List Str) : D := .dic (K.map fun x => (.inr x, .bl true))
theorem kn_in (K : List Str) (y : Str) : inD (.str y) (kn K) = some (decide (y ∈ K)) := by
  show some (valD (K.map fun x => ((.inr x : Key), D.bl true)) (.inr y)).isSome = _
  congr 1
  unfold valD
  rw [Option.isSome_map, Bool.eq_iff_iff, List.find?_isSome, decide_eq_true_iff]
  constructor
  · rintro ⟨p, hp, e⟩
    obtain ⟨x, hx, rfl⟩ := List.mem_map.mp hp
    have e : (Sum.inr x : Key) = .inr y := of_decide_eq_true e
    exact Sum.inr.inj e ▸ hx
  · intro h
    exact ⟨_, List.mem_map.mpr ⟨y, h, rfl⟩, decide_eq_true rfl⟩
theorem kn_put {K : List Str} {x : Str} (hx : x ∉ K) : putD (K.map fun x => ((.inr x : Key), D.bl true)) (.inr x : Key) (.bl true) = (K ++ [x]).map fun x => ((.inr x : Key), D.bl true) := by
  unfold putD
  rw [if_neg]
  · rw [List.map_append]; rfl
  · intro z
    obtain ⟨q, q1, q2⟩ := List.any_eq_true.mp z
    obtain ⟨r, p1, rfl⟩ := List.mem_map.mp q1
    have w : (Sum.inr r : Key) = .inr x := of_decide_eq_true q2
    exact hx (Sum.inr.inj w ▸ p1)
theorem dc_loop {C : CT} {ρ : Ro} (h4 : ρ.length = 7) : ∀ (xs K : List Str), (K ++ xs).Nodup →
    dcL (.one 6) (fun r => ev C G .yes r) (fun r => ev C G (.var 6) r) (fun r => ev C G (.bl true) r) ρ (xs.map D.str) (K.map fun x => (.inr x, .bl true)) = some ((K ++ xs).map fun x => (.inr x, .bl true))
  | [], K, _ => by
    show some _ = _
    rw [List.append_nil]
  | x :: xs, K, nd => by
    have hx : x ∉ K := fun z => (List.nodup_append.mp nd).2.2 _ z _ (List.mem_cons_self ..) rfl
    have ih := dc_loop (C := C) (ρ := ρ) h4 xs (K ++ [x]) (by
      rw [List.append_assoc]
      exact nd)
    have ea : asg (.one 6) (.str x) ρ = some (ρ.set 6 (some (.str x))) := rfl
    have ek : ev C G (.var 6) (ρ.set 6 (some (.str x))) = some (0, .str x) := by
      have g : (ρ.set 6 (some (D.str x)))[6]? = some (some (.str x)) := by
        rw [List.getElem?_set_self (by omega)]
      simp only [ev, g]
    have evv : ev C G (.bl true) (ρ.set 6 (some (.str x))) = some (0, .bl true) := rfl
    have ey : ev C G .yes (ρ.set 6 (some (.str x))) = some (0, .bl true) := rfl
    rw [List.map_cons]
    unfold dcL
    rw [ea]
    dsimp only
    rw [ey, ek, evv]
    show dcL (.one 6) (fun r => ev C G .yes r) (fun r => ev C G (.var 6) r) (fun r => ev C G (.bl true) r) ρ (xs.map D.str) (putD (K.map fun x => ((.inr x : Key), D.bl true)) (.inr x) (.bl true)) = _
    rw [kn_put hx, ih, List.append_assoc]
    rfl
abbrev askE : Exp := .or_ (.cmp .eq (.idx (.var 5) (.int 0)) (.str "ask")) (.or_ (.nt (.blt .all (.lc [6] (.one 6) (.itn (.call "needs_of" (.cons (.var 5) .nil) [] .nil)) .yes (.cmp .isin (.var 6) (.var 4))))) (.cmp .isin (.call "set_by" (.cons (.var 5) .nil) [] .nil) (.var 4)))
abbrev askB : Sta := (.cons (.ite askE (.cons .bad .nil) .nil) (.cons (.ite (.cmp .isnot (.call "set_by" (.cons (.var 5) .nil) [] .nil) .non) (.cons (.seti 4 (.call "set_by" (.cons (.var 5) .nil) [] .nil) (.bl true)) .nil) .nil) .nil))
theorem ask_step (k : Nat) {a b c e : D} {K : List Str} {r : Rw} (h1 : ∀ y ∈ r.needs, y ∈ K) (h2 : ∀ x, r.sets = some x → x ∉ K) (hl : K.length < cap) :
    PV.exec (CC (k + 1)) G W askB [some (0, a), some (0, b), some (0, c), some (0, e), some (1, kn K), some (0, r.d), none] = some (.nx [some (0, a), some (0, b), some (0, c), some (0, e), some (1, kn (K ++ r.sets.toList)), some (0, r.d), none]) := by
  have hset : ∀ (x4 : Option D), ev (CC (k + 1)) G (.call "set_by" (.cons (.var 5) .nil) [] .nil) [some a, some b, some c, some e, x4, some r.d, none] = some (0, optS r.sets) := fun x4 => by
    simp only [ev, evs, List.getElem?_cons_zero, List.getElem?_cons_succ]
    exact set_by_ok k r
  have hneed : ev (CC (k + 1)) G (.call "needs_of" (.cons (.var 5) .nil) [] .nil) [some a, some b, some c, some e, some (kn K), some r.d, none] = some (1, txts r.needs) := by
    simp only [ev, evs, List.getElem?_cons_zero, List.getElem?_cons_succ]
    exact needs_of_ok k r
  have e1 : ev (CC (k + 1)) G askE [some a, some b, some c, some e, some (kn K), some r.d, none] = some (0, .bl false) := by
    refine or_f ?_ (or_f ((nt_of (b := true) (k := 0) ?_).trans rfl) ?_)
    · cases r <;> with_unfolding_all rfl
    · refine (all_lc D.str (fun y => decide (y ∈ K)) (xs := r.needs) ?_ fun x hx => ⟨[some a, some b, some c, some e, some (kn K), some r.d, some (.str x)], rfl, 0, ?_⟩).trans ?_
      · simp only [evI, hneed]; rfl
      · simp only [ev, List.getElem?_cons_zero, List.getElem?_cons_succ, cmpD, kn_in, Option.map_some]
      · rw [List.all_eq_true.mpr fun y hy => decide_eq_true (h1 y hy)]
    · rw [ev, hset]
      simp only [ev, List.getElem?_cons_zero, List.getElem?_cons_succ, cmpD]
      cases hs : r.sets with
      | none => rfl
      | some x =>
        show (inD (.str x) (kn K)).map _ = _
        rw [kn_in, decide_eq_false (h2 x hs)]; rfl
  refine (ex_nx ((ex_false (evB_of (k := 0) e1)).trans ex_nil)).trans ?_
  have hb : evB (CC (k + 1)) G (.cmp .isnot (.call "set_by" (.cons (.var 5) .nil) [] .nil) .non) [some (0, a), some (0, b), some (0, c), some (0, e), some (1, kn K), some (0, r.d), none] = some r.sets.isSome := by
    refine evB_of (k := 0) ?_
    show ev (CC (k + 1)) G _ [some a, some b, some c, some e, none, some r.d, none] = _
    rw [ev, hset]
    cases r.sets <;> rfl
  cases hs : r.sets with
  | none =>
    rw [hs] at hb
    have : kn (K ++ (none : Option Str).toList) = kn K := by simp
    rw [this]
    exact (ex_nx ((ex_false hb).trans ex_nil)).trans rfl
  | some x =>
    rw [hs] at hb
    refine (ex_nx ((ex_true hb).trans ((ex_nx (ex_seti (i := 4) (k2 := 0) (y := .str x) (d := .bl true) (k := 0) (d0 := kn K) (d' := kn (K ++ [x])) (evS_ns rfl rfl) (evS_ns ?_ rfl) rfl ?_)).trans rfl))).trans rfl
    · show ev (CC (k + 1)) G _ [some a, some b, some c, some e, none, some r.d, none] = _
      rw [hset, hs]; rfl
    · show (if (K.map fun x => ((.inr x : Key), D.bl true)).length < cap then some (D.dic (putD (K.map fun x => ((.inr x : Key), D.bl true)) (.inr x) (.bl true))) else none) = _
      rw [if_pos (by rw [List.length_map]; exact hl), kn_put (h2 x hs)]; rfl
theorem ask_loop (k : Nat) {a b c e : D} : ∀ (rs : List Rw) (K : List Str) (x5 : Option (Nat × D)), strt K rs → K.length + rs.length < cap →
    ∃ y5, forL (.one 5) (fun r => PV.exec (CC (k + 1)) G W askB r) (rs.map Rw.d) [some (0, a), some (0, b), some (0, c), some (0, e), some (1, kn K), x5, none] = some (.nx [some (0, a), some (0, b), some (0, c), some (0, e), some (1, kn (K ++ setsL rs)), y5, none])
  | [], K, x5, _, _ => ⟨x5, by show some _ = _; rw [show K ++ setsL [] = K from List.append_nil K]⟩
  | r :: rs, K, x5, h, hl => by
    rw [List.length_cons] at hl
    have hle : r.sets.toList.length ≤ 1 := by cases r.sets <;> simp
    obtain ⟨y5, ih⟩ := ask_loop k (a := a) (b := b) (c := c) (e := e) rs (K ++ r.sets.toList) (some (0, r.d)) h.2.2 (by rw [List.length_append]; omega)
    refine ⟨y5, ?_⟩
    have ea : asgE (.one 5) r.d [some (0, a), some (0, b), some (0, c), some (0, e), some (1, kn K), x5, none] = some [some (0, a), some (0, b), some (0, c), some (0, e), some (1, kn K), some (0, r.d), none] := rfl
    rw [List.map_cons]
    unfold forL
    rw [ea]
    dsimp only
    rw [ask_step k h.1 h.2.1 (by omega)]
    dsimp only
    rw [ih]
    have : setsL (r :: rs) = r.sets.toList ++ setsL rs := rfl
    rw [this, List.append_assoc]
theorem asked_ok {rs : List Rw} {tk ls : List Str} {dt dl : D} (h : Right rs tk ls) (ht : Nms dt tk) (hl : Nms dl ls) : CC 4 (.fn "asked_straight") [rowsD rs, dt, dl] [] [] = some (0, .non) := by
  show runD (CC 3) G W d_asked_straight [rowsD rs, dt, dl] = _
  have c1 : PV.exec (CC 3) G W (.ite (.or_ (.nt (.blt .islist (.var 0))) (.or_ (.cmp .gt (.blt .len (.var 0)) (.glob "ROWS")) (.nt (.blt .all (.lc [5] (.one 5) (.itr (.var 0)) .yes (.call "is_row" (.cons (.var 5) .nil) [] .nil)))))) (.cons .bad .nil) .nil) [some (0, rowsD rs), some (0, dt), some (0, dl), none, none, none, none] = some (.nx [some (0, rowsD rs), some (0, dt), some (0, dl), none, none, none, none]) := by
    refine (ex_false (evB_of (k := 0) (or_f ?_ (or_f ?_ ((nt_of (b := true) (k := 0) ?_).trans rfl))))).trans ex_nil
    · with_unfolding_all rfl
    · show ev (CC 3) G (.cmp .gt (.blt .len (.var 0)) (.glob "ROWS")) [some (rowsD rs), some dt, some dl, none, none, none, none] = _
      have e1 : ev (CC 3) G (.blt .len (.var 0)) [some (rowsD rs), some dt, some dl, none, none, none, none] = some (0, .int (rs.length : Nat)) := by
        show some (0, D.int ((rs.map Rw.d).length : Nat)) = _
        rw [List.length_map]
      have e2 : ev (CC 3) G (.glob "ROWS") [some (rowsD rs), some dt, some dl, none, none, none, none] = some (0, .int 20) := by with_unfolding_all rfl
      have := h.rl
      rw [ev, e1, e2]
      simp only [cmpD, Option.map_some]
      rw [decide_eq_false (by omega)]
    · refine (all_lc Rw.d (fun _ => true) (xs := rs) rfl fun r hr => ⟨[some (rowsD rs), some dt, some dl, none, none, some r.d, none], rfl, 0, ?_⟩).trans ?_
      · simp only [ev, evs, List.getElem?_cons_zero, List.getElem?_cons_succ]
        exact is_row_ok (h.rk r hr)
      · rw [List.all_eq_true.mpr fun _ _ => rfl]
  have step : ∀ (d : D) (xs : List Str), Nms d xs → (∀ x ∈ xs, x ∈ pool) → xs.Nodup → xs.length ≤ 8 → PV.exec (CC 3) G W (.cons (.ite (.or_ (.nt (.blt .islt (.var 3))) (.or_ (.cmp .gt (.blt .len (.var 3)) (.glob "MANY")) (.nt (.call "are_unlike" (.cons (.blt .list (.var 3)) .nil) [] .nil)))) (.cons .bad .nil) .nil) .nil) [some (0, rowsD rs), some (0, dt), some (0, dl), some (0, d), none, none, none] = some (.nx [some (0, rowsD rs), some (0, dt), some (0, dl), some (0, d), none, none, none]) := fun d xs hd hp hn hle => by
    refine (ex_nx ((ex_false (evB_of (k := 0) (or_f ((nt_of (b := true) (k := 0) ?_).trans rfl) (or_f ?_ ((nt_of (b := true) (k := 0) ?_).trans rfl))))).trans ex_nil)).trans ex_nil
    · show ev (CC 3) G (.blt .islt (.var 3)) [some (rowsD rs), some dt, some dl, some d, none, none, none] = _
      simp only [ev, List.getElem?_cons_zero, List.getElem?_cons_succ, hd.islt]
    · show ev (CC 3) G (.cmp .gt (.blt .len (.var 3)) (.glob "MANY")) [some (rowsD rs), some dt, some dl, some d, none, none, none] = _
      have e1 : ev (CC 3) G (.blt .len (.var 3)) [some (rowsD rs), some dt, some dl, some d, none, none, none] = some (0, .int (xs.length : Nat)) := by
        simp only [ev, List.getElem?_cons_zero, List.getElem?_cons_succ, hd.len]
      have e2 : ev (CC 3) G (.glob "MANY") [some (rowsD rs), some dt, some dl, some d, none, none, none] = some (0, .int 8) := by with_unfolding_all rfl
      rw [ev, e1, e2]
      simp only [cmpD, Option.map_some]
      rw [decide_eq_false (by omega)]
    · show ev (CC 3) G (.call "are_unlike" (.cons (.blt .list (.var 3)) .nil) [] .nil) [some (rowsD rs), some dt, some dl, some d, none, none, none] = _
      simp only [ev, evs, List.getElem?_cons_zero, List.getElem?_cons_succ, hd.list]
      exact are_unlike_ok hp hn (by omega)
  have c2 : PV.exec (CC 3) G W (.for_ (.one 3) (.itn (.tup (.cons (.var 1) (.cons (.var 2) .nil)))) (.cons (.ite (.or_ (.nt (.blt .islt (.var 3))) (.or_ (.cmp .gt (.blt .len (.var 3)) (.glob "MANY")) (.nt (.call "are_unlike" (.cons (.blt .list (.var 3)) .nil) [] .nil)))) (.cons .bad .nil) .nil) .nil)) [some (0, rowsD rs), some (0, dt), some (0, dl), none, none, none, none] = some (.nx [some (0, rowsD rs), some (0, dt), some (0, dl), some (0, dl), none, none, none]) := by
    refine (ex_for (ds := [dt, dl]) rfl rfl).trans ?_
    show forL (.one 3) _ [dt, dl] [some (0, rowsD rs), some (0, dt), some (0, dl), none, none, none, none] = _
    have ea : ∀ (d : D) (x3 : Option (Nat × D)), asgE (.one 3) d [some (0, rowsD rs), some (0, dt), some (0, dl), x3, none, none, none] = some [some (0, rowsD rs), some (0, dt), some (0, dl), some (0, d), none, none, none] := fun _ _ => rfl
    unfold forL
    rw [ea]
    dsimp only
    rw [step dt tk ht h.tp h.tn h.tl]
    dsimp only
    unfold forL
    rw [ea]
    dsimp only
    rw [step dl ls hl h.lp h.ln h.ll]
    rfl
  have c3 : PV.exec (CC 3) G W (.set 4 (.dc [6] (.one 6) (.itr (.var 1)) .yes (.var 6) (.bl true))) [some (0, rowsD rs), some (0, dt), some (0, dl), some (0, dl), none, none, none] = some (.nx [some (0, rowsD rs), some (0, dt), some (0, dl), some (0, dl), some (1, kn tk), none, none]) := by
    refine (ex_set (k := 1) (d := kn tk) (evS_ns ?_ ?_)).trans rfl
    · have hi := ht.iter (C := CC 3) (i := 1) (ρ := [some (rowsD rs), some dt, some dl, some dl, none, none, none]) rfl
      have hd := dc_loop (C := CC 3) (ρ := [some (rowsD rs), some dt, some dl, some dl, none, none, none]) rfl tk [] (by simpa using h.tn)
      show ev (CC 3) G _ [some (rowsD rs), some dt, some dl, some dl, none, none, none] = _
      rw [ev, hi]
      exact congrArg (Option.map fun ys => (1, D.dic ys)) hd
    · show ((tk.map fun x => ((.inr x : Key), D.bl true)).all fun p => nosh 0 p.2) = true
      rw [List.all_map]
      exact List.all_eq_true.mpr fun _ _ => rfl
  have hcap : tk.length + rs.length < cap := by
    have := h.tl; have := h.rl
    show _ < 100000
    omega
  obtain ⟨y5, c4'⟩ := ask_loop 2 (a := rowsD rs) (b := dt) (c := dl) (e := dl) rs tk none h.st hcap
  have c4 : PV.exec (CC 3) G W (.for_ (.one 5) (.itr (.var 0)) askB) [some (0, rowsD rs), some (0, dt), some (0, dl), some (0, dl), some (1, kn tk), none, none] = some (.nx [some (0, rowsD rs), some (0, dt), some (0, dl), some (0, dl), some (1, kn (tk ++ setsL rs)), y5, none]) := (ex_for (ds := rs.map Rw.d) rfl rfl).trans c4'
  have c5 : PV.exec (CC 3) G W (.ite (.nt (.blt .all (.lc [6] (.one 6) (.itr (.var 2)) .yes (.cmp .isin (.var 6) (.var 4))))) (.cons .bad .nil) .nil) [some (0, rowsD rs), some (0, dt), some (0, dl), some (0, dl), some (1, kn (tk ++ setsL rs)), y5, none] = some (.nx [some (0, rowsD rs), some (0, dt), some (0, dl), some (0, dl), some (1, kn (tk ++ setsL rs)), y5, none]) := by
    refine (ex_false (evB_of (k := 0) ((nt_of (b := true) (k := 0) ?_).trans rfl))).trans ex_nil
    have hx : ∃ z5, expose (fv (.nt (.blt .all (.lc [6] (.one 6) (.itr (.var 2)) .yes (.cmp .isin (.var 6) (.var 4)))))) 0 [some (0, rowsD rs), some (0, dt), some (0, dl), some (0, dl), some (1, kn (tk ++ setsL rs)), y5, none] = [some (rowsD rs), some dt, some dl, some dl, some (kn (tk ++ setsL rs)), z5, none] := by
      rcases y5 with _ | ⟨k5, d5⟩
      · exact ⟨none, rfl⟩
      · exact ⟨_, rfl⟩
    obtain ⟨z5, hx⟩ := hx
    rw [hx]
    refine (all_lc D.str (fun y => decide (y ∈ tk ++ setsL rs)) (xs := ls) (hl.iter rfl) fun x hx => ⟨[some (rowsD rs), some dt, some dl, some dl, some (kn (tk ++ setsL rs)), z5, some (.str x)], rfl, 0, ?_⟩).trans ?_
    · simp only [ev, List.getElem?_cons_zero, List.getElem?_cons_succ, cmpD, kn_in, Option.map_some]
    · rw [List.all_eq_true.mpr fun y hy => decide_eq_true (h.li y hy)]
  have body : PV.exec (CC 3) G W d_asked_straight.body (env0 d_asked_straight.N [rowsD rs, dt, dl]) = some (.nx [some (0, rowsD rs), some (0, dt), some (0, dl), some (0, dl), some (1, kn (tk ++ setsL rs)), y5, none]) :=
    (ex_nx c1).trans ((ex_nx c2).trans ((ex_nx c3).trans ((ex_nx c4).trans ((ex_nx c5).trans ex_nil))))
  unfold runD
  rw [body]
end K9

set_option Elab.async false
set_option linter.all false
set_option maxRecDepth 100000
set_option maxHeartbeats 4000000
/-! k09, part V: one turn of the loop of fewest. -/
namespace K9
open PySem PySem.Spec PyProof.Rows L2 PV
def kvI (p : Str × Int) : Key × D := (.inr p.1, .int p.2)
def dD (dl : Dl) : D := .dic (dl.map kvI)
theorem val_dD : ∀ (dl : Dl) (x : Str), valD (dl.map kvI) (.inr x : Key) = (hv dl x).map D.int
  | [], x => rfl
  | p :: dl, x => by
    have ih := val_dD dl x
    unfold valD hv at *
    rw [List.map_cons, List.find?_cons, List.find?_cons]
    by_cases h : p.1 = x
    · rw [show decide ((kvI p).1 = (Sum.inr x : Key)) = true from decide_eq_true (by rw [← h]; rfl), decide_eq_true h]; rfl
    · rw [show decide ((kvI p).1 = (Sum.inr x : Key)) = false from decide_eq_false (fun z => h (Sum.inr.inj z)), decide_eq_false h]
      exact ih
theorem in_dD (dl : Dl) (x : Str) : inD (.str x) (dD dl) = some (hv dl x).isSome := by
  show some (valD (dl.map kvI) (.inr x : Key)).isSome = _
  rw [val_dD, Option.isSome_map]
theorem idx_dD (dl : Dl) (x : Str) : idxD (dD dl) (.str x) = (hv dl x).map D.int := val_dD dl x
theorem put_dD {dl : Dl} {x : Str} (h : x ∉ dl.map (·.1)) (i : Int) (hl : dl.length < cap) : putAt (dD dl) (.str x) (.int i) = some (dD (dl ++ [(x, i)])) := by
  show (if (dl.map kvI).length < cap then some (D.dic (putD (dl.map kvI) (.inr x : Key) (.int i))) else none) = _
  rw [if_pos (by rw [List.length_map]; exact hl)]
  unfold putD
  rw [if_neg]
  · unfold dD
    rw [List.map_append]; rfl
  · intro z
    obtain ⟨q, q1, q2⟩ := List.any_eq_true.mp z
    obtain ⟨p, p1, rfl⟩ := List.mem_map.mp q1
    have w : (Sum.inr p.1 : Key) = .inr x := of_decide_eq_true q2
    exact h (List.mem_map.mpr ⟨p, p1, Sum.inr.inj w⟩)
def inL (xs : List Int) : D := .lst (xs.map D.int)
theorem nosh_inL (xs : List Int) : nosh 1 (inL xs) = true := by
  show (xs.map D.int).all (nosh 0) = true
  rw [List.all_map]
  exact List.all_eq_true.mpr fun _ _ => rfl
theorem nosh_dD (dl : Dl) : nosh 1 (dD dl) = true := by
  show ((dl.map kvI).all fun p => nosh 0 p.2) = true
  rw [List.all_map]
  exact List.all_eq_true.mpr fun _ _ => rfl
theorem intsD_map : ∀ xs : List Int, intsD (xs.map D.int) = some xs
  | [] => rfl
  | x :: xs => by
    show (intsD (xs.map D.int)).map (x :: ·) = _
    rw [intsD_map xs]; rfl
theorem flat_ints (t : List Int) : (t.map D.int).all flat = true := by
  rw [List.all_map]
  exact List.all_eq_true.mpr fun _ _ => rfl
theorem in_inL (t : List Int) (h : Int) : inD (.int h) (inL t) = some (decide (h ∈ t)) := by
  show (if flat (.int h) = true ∧ (t.map D.int).all flat = true then some ((t.map D.int).any fun y => eqF y (.int h)) else none) = _
  rw [if_pos ⟨rfl, flat_ints t⟩, List.any_map]
  congr 1
  rw [Bool.eq_iff_iff, List.any_eq_true, decide_eq_true_iff]
  constructor
  · rintro ⟨x, hx, e⟩
    have e : (x == h) = true := e
    exact (by simpa using e : x = h) ▸ hx
  · intro hx
    exact ⟨h, hx, by show (h == h) = true; simp⟩
theorem nodup_len : ∀ {l t : List Str}, l.Nodup → (∀ x ∈ l, x ∈ t) → l.length ≤ t.length
  | [], t, _, _ => Nat.zero_le _
  | x :: l, t, nd, h => by
    rw [List.nodup_cons] at nd
    have hx := h x (List.mem_cons_self ..)
    have := nodup_len (l := l) (t := t.erase x) nd.2 fun y hy => (List.mem_erase_of_ne (show y ≠ x from fun e => nd.1 (by rw [← e]; exact hy))).mpr (h y (List.mem_cons_of_mem _ hy))
    rw [List.length_erase_of_mem hx] at this
    have : 0 < t.length := List.length_pos_of_mem hx
    rw [List.length_cons]
    omega
theorem rngD_nat (n : Nat) : rngD ((n : Nat) : Int) = (List.range n).map fun i => D.int ((i : Nat) : Int) := by
  unfold rngD
  rw [Int.toNat_natCast]
theorem len_sts (S : Sts) : bltD .len (sts S) = some (0, .int (S.length : Nat)) := by
  show some (0, D.int ((S.map fun p => ((.inr p.1 : Key), sv p.2)).length : Nat)) = _
  rw [List.length_map]
abbrev turnB : Sta := (.cons (.set 7 (.idx (.idx (.var 3) (.var 6)) (.int 0)))
    (.cons (.set 8 (.lc [10] (.one 10) (.itn (.call "standing" (.cons (.var 3) (.cons (.var 7) .nil)) [] .nil)) (.cmp .isin (.var 10) (.var 5)) (.idx (.var 5) (.var 10))))
    (.cons (.seti 5 (.var 6) (.blt .min (.lc [11] (.one 11) (.rng (.blt .len (.var 3))) (.cmp .notin (.var 11) (.var 8)) (.var 11))))
    .nil)))
theorem turn (k : Nat) {a b c : D} {cs : List Int} {S : Sts} {dl : Dl} {p : Str × (Int × Int)} {x7 x8 : Option (Nat × D)} (hx : (x7 = none ∧ x8 = none) ∨ ∃ i t, x7 = some (0, .int i) ∧ x8 = some (1, inL t)) (nd : (S.map (·.1)).Nodup) (hp : p ∈ S) (hn : p.1 ∉ dl.map (·.1)) (hc : S.length < cap) (hd : dl.length < cap) (hf : (minI (freeL S.length (takenL S dl p.2.1))).isSome = true) :
    PV.exec (CC (k + 1)) G W turnB [some (0, a), some (0, b), some (0, c), some (0, sts S), some (1, inL cs), some (1, dD dl), some (0, .str p.1), x7, x8, none, none, none] =
      some (.nx [some (0, a), some (0, b), some (0, c), some (0, sts S), some (1, inL cs), some (1, dD (dl ++ [(p.1, handF S dl p.2.1)])), some (0, .str p.1), some (0, .int p.2.1), some (1, inL (takenL S dl p.2.1)), none, none, none]) := by
  have hv1 : idxD (sts S) (.str p.1) = some (sv p.2) := val_sts nd hp
  have hv2 : idxD (sv p.2) (.int 0) = some (.int p.2.1) := by with_unfolding_all rfl
  have e1 : ∀ z7 z8 : Option D, ev (CC (k + 1)) G (.idx (.idx (.var 3) (.var 6)) (.int 0)) [some a, some b, some c, some (sts S), none, none, some (.str p.1), z7, z8, none, none, none] = some (0, .int p.2.1) := fun z7 z8 => by
    simp only [ev, List.getElem?_cons_zero, List.getElem?_cons_succ, hv1, Option.map_some, hv2]
  have s1 : PV.exec (CC (k + 1)) G W (.set 7 (.idx (.idx (.var 3) (.var 6)) (.int 0))) [some (0, a), some (0, b), some (0, c), some (0, sts S), some (1, inL cs), some (1, dD dl), some (0, .str p.1), x7, x8, none, none, none] = some (.nx [some (0, a), some (0, b), some (0, c), some (0, sts S), some (1, inL cs), some (1, dD dl), some (0, .str p.1), some (0, .int p.2.1), x8, none, none, none]) := by
    refine (ex_set (k := 0) (d := .int p.2.1) (evS_ns ?_ rfl)).trans rfl
    rcases hx with ⟨rfl, rfl⟩ | ⟨i, t, rfl, rfl⟩
    · exact e1 none none
    · exact e1 (some (.int i)) none
  have e2 : ∀ z8 : Option D, ev (CC (k + 1)) G (.lc [10] (.one 10) (.itn (.call "standing" (.cons (.var 3) (.cons (.var 7) .nil)) [] .nil)) (.cmp .isin (.var 10) (.var 5)) (.idx (.var 5) (.var 10))) [some a, some b, some c, some (sts S), none, some (dD dl), some (.str p.1), some (.int p.2.1), z8, none, none, none] = some (1, inL (takenL S dl p.2.1)) := fun z8 => by
    have hi : evI (CC (k + 1)) G (.itn (.call "standing" (.cons (.var 3) (.cons (.var 7) .nil)) [] .nil)) [some a, some b, some c, some (sts S), none, some (dD dl), some (.str p.1), some (.int p.2.1), z8, none, none, none] = some ((stands S p.2.1).map D.str) := by
      simp only [evI, ev, evs, List.getElem?_cons_zero, List.getElem?_cons_succ, standing_ok k S p.2.1]
      rfl
    refine (ev_lc hi (lc_rule D.str (fun x => (hv dl x).isSome) (fun x => .int ((hv dl x).getD 0)) fun x hx => ?_)).trans ?_
    · refine ⟨[some a, some b, some c, some (sts S), none, some (dD dl), some (.str p.1), some (.int p.2.1), z8, none, some (.str x), none], rfl, ⟨0, ?_⟩, fun hs => ⟨0, ?_⟩⟩
      · simp only [ev, List.getElem?_cons_zero, List.getElem?_cons_succ, cmpD, in_dD, Option.map_some]
      · simp only [ev, List.getElem?_cons_zero, List.getElem?_cons_succ, idx_dD]
        cases h : hv dl x with
        | none => rw [h] at hs; cases hs
        | some i => rfl
    · unfold inL takenL
      rw [List.map_map]; rfl
  have s2 : PV.exec (CC (k + 1)) G W (.set 8 (.lc [10] (.one 10) (.itn (.call "standing" (.cons (.var 3) (.cons (.var 7) .nil)) [] .nil)) (.cmp .isin (.var 10) (.var 5)) (.idx (.var 5) (.var 10)))) [some (0, a), some (0, b), some (0, c), some (0, sts S), some (1, inL cs), some (1, dD dl), some (0, .str p.1), some (0, .int p.2.1), x8, none, none, none] = some (.nx [some (0, a), some (0, b), some (0, c), some (0, sts S), some (1, inL cs), some (1, dD dl), some (0, .str p.1), some (0, .int p.2.1), some (1, inL (takenL S dl p.2.1)), none, none, none]) := by
    refine (ex_set (k := 1) (d := inL (takenL S dl p.2.1)) (evS_ns ?_ (nosh_inL _))).trans rfl
    rcases hx with ⟨rfl, rfl⟩ | ⟨i, t, rfl, rfl⟩
    · exact e2 none
    · exact e2 none
  have e3 : ev (CC (k + 1)) G (.blt .min (.lc [11] (.one 11) (.rng (.blt .len (.var 3))) (.cmp .notin (.var 11) (.var 8)) (.var 11))) [some a, some b, some c, some (sts S), none, none, some (.str p.1), some (.int p.2.1), some (inL (takenL S dl p.2.1)), none, none, none] = some (0, .int (handF S dl p.2.1)) := by
    have hi : evI (CC (k + 1)) G (.rng (.blt .len (.var 3))) [some a, some b, some c, some (sts S), none, none, some (.str p.1), some (.int p.2.1), some (inL (takenL S dl p.2.1)), none, none, none] = some ((List.range S.length).map fun i => D.int ((i : Nat) : Int)) := by
      have hc' : ((S.length : Nat) : Int) ≤ (cap : Nat) ∧ -(2 ^ 62) ≤ ((S.length : Nat) : Int) := ⟨by omega, by omega⟩
      simp only [evI, ev, List.getElem?_cons_zero, List.getElem?_cons_succ, len_sts]
      rw [if_pos hc', rngD_nat]
    have l : ev (CC (k + 1)) G (.lc [11] (.one 11) (.rng (.blt .len (.var 3))) (.cmp .notin (.var 11) (.var 8)) (.var 11)) [some a, some b, some c, some (sts S), none, none, some (.str p.1), some (.int p.2.1), some (inL (takenL S dl p.2.1)), none, none, none] = some (1, inL (freeL S.length (takenL S dl p.2.1))) := by
      refine (ev_lc hi (lc_rule (fun i : Nat => D.int (i : Int)) (fun i => !decide ((i : Int) ∈ takenL S dl p.2.1)) (fun i => .int (i : Int)) fun i hi => ?_)).trans ?_
      · refine ⟨[some a, some b, some c, some (sts S), none, none, some (.str p.1), some (.int p.2.1), some (inL (takenL S dl p.2.1)), none, none, some (.int i)], rfl, ⟨0, ?_⟩, fun _ => ⟨0, rfl⟩⟩
        simp only [ev, List.getElem?_cons_zero, List.getElem?_cons_succ, cmpD, in_inL, Option.map_some]
      · unfold inL freeL
        rw [List.filter_map, List.map_map]; rfl
    rw [ev, l]
    show (match intsD ((freeL S.length (takenL S dl p.2.1)).map D.int) with
      | some ns => (minI ns).map fun m => (0, D.int m)
      | none => none) = _
    rw [intsD_map]
    dsimp only
    unfold handF
    cases hm : minI (freeL S.length (takenL S dl p.2.1)) with
    | none => rw [hm] at hf; cases hf
    | some m => rfl
  refine (ex_nx s1).trans ((ex_nx s2).trans ((ex_nx (ex_seti (i := 5) (k := 0) (k2 := 0) (d := .int (handF S dl p.2.1)) (y := .str p.1) (d0 := dD dl) (evS_ns e3 rfl) (evS_ns ?_ rfl) rfl (put_dD hn _ hd))).trans rfl))
  rfl
theorem turns (k : Nat) {a b c : D} {cs : List Int} {S : Sts} (nd : (S.map (·.1)).Nodup) (hc : S.length < cap) : ∀ (rest : Sts) (dl : Dl) (x6 x7 x8 : Option (Nat × D)), ((x7 = none ∧ x8 = none) ∨ ∃ i t, x7 = some (0, .int i) ∧ x8 = some (1, inL t)) → (∃ A : Sts, S = A ++ rest ∧ dl.map (·.1) = A.map (·.1)) → ∃ y6 y7 y8,
    forL (.one 6) (fun r => PV.exec (CC (k + 1)) G W turnB r) (rest.map fun p => D.str p.1) [some (0, a), some (0, b), some (0, c), some (0, sts S), some (1, inL cs), some (1, dD dl), x6, x7, x8, none, none, none] =
      some (.nx [some (0, a), some (0, b), some (0, c), some (0, sts S), some (1, inL cs), some (1, dD (deal S rest dl)), y6, y7, y8, none, none, none]) ∧ ((y7 = none ∧ y8 = none) ∨ ∃ i t, y7 = some (0, .int i) ∧ y8 = some (1, inL t)) ∧ (y6 = x6 ∨ ∃ x, y6 = some (0, .str x))
  | [], dl, x6, x7, x8, hx, _ => ⟨x6, x7, x8, rfl, hx, .inl rfl⟩
  | p :: rest, dl, x6, x7, x8, hx, ⟨A, hA, hk⟩ => by
    have hpS : p ∈ S := by rw [hA]; exact List.mem_append_right _ (List.mem_cons_self ..)
    have hn : p.1 ∉ dl.map (·.1) := fun z => by
      rw [hk] at z
      have := nd
      rw [hA, List.map_append] at this
      exact (List.nodup_append.mp this).2.2 _ z _ (by rw [List.map_cons]; exact List.mem_cons_self ..) rfl
    have hlen : dl.length < S.length := by
      have h1 := congrArg List.length hk
      have h2 := congrArg List.length hA
      rw [List.length_map, List.length_map] at h1
      rw [List.length_append, List.length_cons] at h2
      omega
    have hf : (minI (freeL S.length (takenL S dl p.2.1))).isSome = true := by
      obtain ⟨m, hm, _⟩ := free_ok (n := S.length) (t := takenL S dl p.2.1) (by
        -- names dealt stand once
        have ht : ((stands S p.2.1).filter fun x => (hv dl x).isSome).length ≤ dl.length := by
          have hnd : ((stands S p.2.1).filter fun x => (hv dl x).isSome).Nodup := (stands_nodup nd _).filter _
          have hsub : ∀ x ∈ (stands S p.2.1).filter (fun x => (hv dl x).isSome), x ∈ dl.map (·.1) := fun x hx => by
            have := (List.mem_filter.mp hx).2
            refine Classical.byContradiction fun z => ?_
            rw [hv_out z] at this; cases this
          have := nodup_len hnd hsub
          rw [List.length_map] at this
          exact this
        unfold takenL
        rw [List.length_map]
        omega)
      rw [hm]; rfl
    obtain ⟨y6, y7, y8, ih, hy, h6⟩ := turns k (a := a) (b := b) (c := c) (cs := cs) nd hc rest (dl ++ [(p.1, handF S dl p.2.1)]) (some (0, .str p.1)) (some (0, .int p.2.1)) (some (1, inL (takenL S dl p.2.1))) (.inr ⟨_, _, rfl, rfl⟩) ⟨A ++ [p], by rw [hA]; simp, by rw [List.map_append, List.map_append, hk]; rfl⟩
    refine ⟨y6, y7, y8, ?_, hy, ?_⟩
    · have ea : asgE (.one 6) (.str p.1) [some (0, a), some (0, b), some (0, c), some (0, sts S), some (1, inL cs), some (1, dD dl), x6, x7, x8, none, none, none] = some [some (0, a), some (0, b), some (0, c), some (0, sts S), some (1, inL cs), some (1, dD dl), some (0, .str p.1), x7, x8, none, none, none] := rfl
      rw [List.map_cons]
      unfold forL
      rw [ea]
      dsimp only
      rw [turn k hx nd hpS hn hc (by omega) hf]
      exact ih
    · rcases h6 with rfl | h6
      · exact .inr ⟨_, rfl⟩
      · exact .inr h6
end K9

set_option Elab.async false
set_option linter.all false
set_option maxRecDepth 100000
set_option maxHeartbeats 4000000
/-! k09, part W: fewest, whole. -/
namespace K9
open PySem PySem.Spec PyProof.Rows L2 PV
theorem ex_exp {C : CT} {w : Nat} {e : Exp} {ρ ρ' : PV.Env} {k : Nat} {d : D} (h : evS C G e ρ = some (k, d, ρ')) : PV.exec C G w (.exp e) ρ = some (.nx ρ') := by
  show (match evS C G e ρ with
    | some (_, _, ρ') => some (Out.nx ρ')
    | none => none) = _
  rw [h]
theorem keyStrs_sts : ∀ S : Sts, keyStrs (S.map kvS) = some (S.map (·.1))
  | [] => rfl
  | p :: S => by
    show (keyStrs (S.map kvS)).map (p.1 :: ·) = _
    rw [keyStrs_sts S]; rfl
theorem keysL_sts {f : D → Option (Nat × D)} : ∀ (S : Sts), (∀ p ∈ S, f (.str p.1) = some (0, .int p.2.1)) → keysL f ((S.map (·.1)).map D.str) = some (S.map fun p => (p.2.1, D.str p.1))
  | [], _ => rfl
  | p :: S, h => by
    show (match f (.str p.1) with
    | some (_, .int i) => (keysL f ((S.map (fun q : Str × (Int × Int) => q.1)).map D.str)).map ((i, D.str p.1) :: ·)
    | _ => none) = _
    rw [h p (List.mem_cons_self ..), keysL_sts S fun q hq => h q (List.mem_cons_of_mem _ hq)]; rfl
def insF (M P : Int) (dl : Dl) : D := .ins "Fewest" [("many", .int M), ("place", .int P), ("dealt", dD dl)]
theorem make_ok (k : Nat) (M P : Int) (dl : Dl) : CC (k + 2) (.fn "Fewest") [.int M, .int P, dD dl] [] [] = some (2, insF M P dl) := by
  with_unfolding_all rfl
theorem nosh_insF (M P : Int) (dl : Dl) : nosh 2 (insF M P dl) = true := by
  show ((nosh 1 (.int M)) && ((nosh 1 (.int P)) && ((nosh 1 (dD dl)) && true))) = true
  rw [nosh_dD]; rfl
theorem fewest_ok {rs : List Rw} {tk ls : List Str} {dt dl : D} (h : Right rs tk ls) (ht : Nms dt tk) (hl : Nms dl ls) : ∃ P : Nat, (cntL (stretchS tk rs ls) rs.length)[P]? = some (bigM (stretchS tk rs ls) rs.length) ∧
    runD (CC 4) G W d_fewest [rowsD rs, dt, dl] = some (2, insF (bigM (stretchS tk rs ls) rs.length) P (deal (stretchS tk rs ls) (stretchS tk rs ls) [])) := by
  have hcap : tk.length + rs.length < cap := by
    have := h.tl; have := h.rl
    show _ < 100000
    omega
  have hst := stretches_ok 2 (rs := rs) ht hl h.tn h.st h.li hcap
  have hk := stretchS_keys rs tk ls
  have nd : ((stretchS tk rs ls).map (·.1)).Nodup := by rw [hk]; exact strt_nodup rs tk h.tn h.st
  have hlenS : (stretchS tk rs ls).length ≤ 28 := by
    have e1 := congrArg List.length hk
    rw [List.length_map, List.length_append] at e1
    have e2 : (setsL rs).length ≤ rs.length := by
      unfold setsL
      rw [List.length_flatten, List.map_map]
      have : ∀ l : List Rw, (l.map (List.length ∘ fun r => r.sets.toList)).sum ≤ l.length := fun l => by
        induction l with
        | nil => exact Nat.le_refl _
        | cons r l ih =>
          rw [List.map_cons, List.sum_cons, List.length_cons]
          have : (List.length ∘ fun r : Rw => r.sets.toList) r ≤ 1 := by
            show r.sets.toList.length ≤ 1
            cases r.sets <;> simp
          omega
      exact this rs
    have := h.tl; have := h.rl
    omega
  revert hst hk nd hlenS
  generalize hS : stretchS tk rs ls = S
  intro hst hk nd hlenS
  have hsort : S.Pairwise fun p q => p.2.1 ≤ q.2.1 := by rw [← hS]; exact stretch_sorted
  obtain ⟨b1, b2, b3⟩ := big_ok S rs.length
  obtain ⟨P, p1, p2⟩ := index_ok b2
  refine ⟨P, p2, ?_⟩
  have c1 : PV.exec (CC 4) G W (.exp (.call "asked_straight" (.cons (.var 0) (.cons (.var 1) (.cons (.var 2) .nil))) [] .nil)) [some (0, rowsD rs), some (0, dt), some (0, dl), none, none, none, none, none, none, none, none, none] = some (.nx [some (0, rowsD rs), some (0, dt), some (0, dl), none, none, none, none, none, none, none, none, none]) := by
    refine ex_exp (k := 0) (d := .non) (evS_ns ?_ rfl)
    show ev (CC 4) G _ [some (rowsD rs), some dt, some dl, none, none, none, none, none, none, none, none, none] = _
    simp only [ev, evs, List.getElem?_cons_zero, List.getElem?_cons_succ]
    exact asked_ok h ht hl
  have c2 : PV.exec (CC 4) G W (.set 3 (.call "stretches_of" (.cons (.var 0) (.cons (.var 1) (.cons (.var 2) .nil))) [] .nil)) [some (0, rowsD rs), some (0, dt), some (0, dl), none, none, none, none, none, none, none, none, none] = some (.nx [some (0, rowsD rs), some (0, dt), some (0, dl), some (2, sts S), none, none, none, none, none, none, none, none]) := by
    refine (ex_set (k := 2) (d := sts S) (evS_ns ?_ (nosh_sts S))).trans rfl
    show ev (CC 4) G _ [some (rowsD rs), some dt, some dl, none, none, none, none, none, none, none, none, none] = _
    simp only [ev, evs, List.getElem?_cons_zero, List.getElem?_cons_succ]
    exact hst
  have c3 : PV.exec (CC 4) G W (.set 4 (.lc [9] (.one 9) (.rng (.bin .add (.blt .len (.var 0)) (.int 1))) .yes (.blt .len (.call "standing" (.cons (.var 3) (.cons (.var 9) .nil)) [] .nil)))) [some (0, rowsD rs), some (0, dt), some (0, dl), some (2, sts S), none, none, none, none, none, none, none, none] = some (.nx [some (0, rowsD rs), some (0, dt), some (0, dl), some (2, sts S), some (1, inL (cntL S rs.length)), none, none, none, none, none, none, none]) := by
    refine (ex_set (k := 1) (d := inL (cntL S rs.length)) (evS_ns ?_ (nosh_inL _))).trans rfl
    show ev (CC 4) G _ [some (rowsD rs), some dt, some dl, some (sts S), none, none, none, none, none, none, none, none] = _
    have hlen : ev (CC 4) G (.blt .len (.var 0)) [some (rowsD rs), some dt, some dl, some (sts S), none, none, none, none, none, none, none, none] = some (0, .int (rs.length : Nat)) := by
      show some (0, D.int ((rs.map Rw.d).length : Nat)) = _
      rw [List.length_map]
    have hi : evI (CC 4) G (.rng (.bin .add (.blt .len (.var 0)) (.int 1))) [some (rowsD rs), some dt, some dl, some (sts S), none, none, none, none, none, none, none, none] = some ((List.range (rs.length + 1)).map fun i => D.int ((i : Nat) : Int)) := by
      have hb : ev (CC 4) G (.bin .add (.blt .len (.var 0)) (.int 1)) [some (rowsD rs), some dt, some dl, some (sts S), none, none, none, none, none, none, none, none] = some (0, .int ((rs.length + 1 : Nat) : Int)) := by
        rw [ev, hlen]; rfl
      have hc' : ((rs.length + 1 : Nat) : Int) ≤ (cap : Nat) ∧ -(2 ^ 62) ≤ ((rs.length + 1 : Nat) : Int) := ⟨by omega, by omega⟩
      simp only [evI, hb]
      rw [if_pos hc', rngD_nat]
    refine (ev_lc hi (lc_all (fun i : Nat => D.int (i : Int)) (fun i => .int ((stands S (i : Nat)).length : Nat)) fun i _ => ⟨[some (rowsD rs), some dt, some dl, some (sts S), none, none, none, none, none, some (.int i), none, none], rfl, 0, ?_⟩)).trans ?_
    · simp only [ev, evs, List.getElem?_cons_zero, List.getElem?_cons_succ, standing_ok 3 S (i : Int), len_txts]
    · unfold inL cntL
      rw [List.map_map]; rfl
  have c4 : PV.exec (CC 4) G W (.set 5 .dnew) [some (0, rowsD rs), some (0, dt), some (0, dl), some (2, sts S), some (1, inL (cntL S rs.length)), none, none, none, none, none, none, none] = some (.nx [some (0, rowsD rs), some (0, dt), some (0, dl), some (2, sts S), some (1, inL (cntL S rs.length)), some (1, dD []), none, none, none, none, none, none]) := by
    refine (ex_set (k := 1) (d := dD []) (evS_ns rfl rfl)).trans rfl
  obtain ⟨y6, y7, y8, t1, t2, t3⟩ := turns 3 (a := rowsD rs) (b := dt) (c := dl) (cs := cntL S rs.length) nd (show S.length < 100000 by omega) S [] none none none (.inl ⟨rfl, rfl⟩) ⟨[], rfl, rfl⟩
  have c5 : PV.exec (CC 4) G W (.for_ (.one 6) (.itn (.sortk [3] (.var 3) (.idx (.idx (.var 1) (.var 0)) (.int 0)))) turnB) [some (0, rowsD rs), some (0, dt), some (0, dl), some (2, sts S), some (1, inL (cntL S rs.length)), some (1, dD []), none, none, none, none, none, none] = some (.nx [some (0, rowsD rs), some (0, dt), some (0, dl), some (0, sts S), some (1, inL (cntL S rs.length)), some (1, dD (deal S S [])), y6, y7, y8, none, none, none]) := by
    refine (ex_for (ds := S.map fun p => D.str p.1) rfl ?_).trans t1
    show evI (CC 4) G _ [some (rowsD rs), some dt, some dl, some (sts S), none, none, none, none, none, none, none, none] = _
    have hs : ev (CC 4) G (.sortk [3] (.var 3) (.idx (.idx (.var 1) (.var 0)) (.int 0))) [some (rowsD rs), some dt, some dl, some (sts S), none, none, none, none, none, none, none, none] = some (1, .lst (S.map fun p => D.str p.1)) := by
      have hkeys := keysL_sts (f := fun d => ev (CC 4) G (.idx (.idx (.var 1) (.var 0)) (.int 0)) [some d, some (sts S)]) S fun p hp => by
        have hv1 : idxD (sts S) (.str p.1) = some (sv p.2) := val_sts nd hp
        have hv2 : idxD (sv p.2) (.int 0) = some (.int p.2.1) := by with_unfolding_all rfl
        simp only [ev, List.getElem?_cons_zero, List.getElem?_cons_succ, hv1, Option.map_some, hv2]
      have hstr : keyStrs (S.map fun p => ((.inr p.1 : Key), sv p.2)) = some (S.map (·.1)) := keyStrs_sts S
      have hstr' : ev (CC 4) G (.var 3) [some (rowsD rs), some dt, some dl, some (sts S), none, none, none, none, none, none, none, none] = some (0, .dic (S.map fun p => ((.inr p.1 : Key), sv p.2))) := rfl
      rw [ev, hstr']
      dsimp only
      rw [hstr]
      dsimp only
      have hjoin : ([3].map fun j => ([some (rowsD rs), some dt, some dl, some (sts S), none, none, none, none, none, none, none, none][j]?).join) = [some (sts S)] := rfl
      rw [hjoin, hkeys]
      dsimp only
      rw [if_pos (by rw [List.length_map]; omega), sortK_id]
      · rw [List.map_map]; rfl
      · rw [List.pairwise_map]
        exact hsort
    simp only [evI, hs]
  have c6 : PV.exec (CC 4) G W (.ret (.call "Fewest" (.cons (.blt .max (.var 4)) (.cons (.index (.var 4) (.blt .max (.var 4))) (.cons (.var 5) .nil))) [] .nil)) [some (0, rowsD rs), some (0, dt), some (0, dl), some (0, sts S), some (1, inL (cntL S rs.length)), some (1, dD (deal S S [])), y6, y7, y8, none, none, none] = some (.rt 2 (insF (bigM S rs.length) P (deal S S []))) := by
    refine ex_ret (evS_ns ?_ (nosh_insF _ _ _))
    have g4 := exp_get (m := fv (.call "Fewest" (.cons (.blt .max (.var 4)) (.cons (.index (.var 4) (.blt .max (.var 4))) (.cons (.var 5) .nil))) [] .nil)) (i := 0) (j := 4) (ρ := [some (0, rowsD rs), some (0, dt), some (0, dl), some (0, sts S), some (1, inL (cntL S rs.length)), some (1, dD (deal S S [])), y6, y7, y8, none, none, none]) rfl (.inr (by decide))
    have g5 := exp_get (m := fv (.call "Fewest" (.cons (.blt .max (.var 4)) (.cons (.index (.var 4) (.blt .max (.var 4))) (.cons (.var 5) .nil))) [] .nil)) (i := 0) (j := 5) (ρ := [some (0, rowsD rs), some (0, dt), some (0, dl), some (0, sts S), some (1, inL (cntL S rs.length)), some (1, dD (deal S S [])), y6, y7, y8, none, none, none]) rfl (.inr (by decide))
    have hm : bltD .max (inL (cntL S rs.length)) = some (0, .int (bigM S rs.length)) := by
      show (match intsD ((cntL S rs.length).map D.int) with
        | some ns => (maxI ns).map fun m => (0, D.int m)
        | none => none) = _
      rw [intsD_map]
      dsimp only
      rw [b1]; rfl
    have hix : ∀ ρ : Ro, ρ[4]? = some (some (inL (cntL S rs.length))) → ev (CC 4) G (.index (.var 4) (.blt .max (.var 4))) ρ = some (0, .int (P : Nat)) := fun ρ g => by
      have e4 : ev (CC 4) G (.var 4) ρ = some (0, .lst ((cntL S rs.length).map D.int)) := by simp only [ev, g]; rfl
      have e5 : ev (CC 4) G (.blt .max (.var 4)) ρ = some (0, .int (bigM S rs.length)) := by simp only [ev, g, hm]
      rw [ev, e4, e5]
      dsimp only
      rw [if_pos ⟨rfl, flat_ints _⟩, p1]; rfl
    have hix4 := hix _ g4
    have e4 : ev (CC 4) G (.blt .max (.var 4)) _ = some (0, .int (bigM S rs.length)) := (by simp only [ev, g4, hm] : ev (CC 4) G (.blt .max (.var 4)) (expose (fv (.call "Fewest" (.cons (.blt .max (.var 4)) (.cons (.index (.var 4) (.blt .max (.var 4))) (.cons (.var 5) .nil))) [] .nil)) 0 [some (0, rowsD rs), some (0, dt), some (0, dl), some (0, sts S), some (1, inL (cntL S rs.length)), some (1, dD (deal S S [])), y6, y7, y8, none, none, none]) = _)
    rw [ev]
    simp only [evs, e4, hix4]
    simp only [ev, g5]
    exact make_ok 2 _ _ _
  exact run_rt ((ex_nx c1).trans ((ex_nx c2).trans ((ex_nx c3).trans ((ex_nx c4).trans ((ex_nx c5).trans (ex_rt c6))))))
end K9

set_option Elab.async false
set_option linter.all false
set_option maxRecDepth 100000
set_option maxHeartbeats 4000000
/-! k09, part Xa: sets of numbers, texts in order, cuts. -/
namespace K9
open PySem PySem.Spec PyProof.Rows L2 PV
theorem cut_drop {α : Type} (xs : List α) (n : Nat) : cutL xs (some (n : Int)) none = xs.drop n := by
  unfold cutL
  rw [HT.sIx_nat, HT.sIx_none]
  by_cases h : n ≤ xs.length
  · rw [Nat.min_eq_left h]
    exact List.take_of_length_le (by rw [List.length_drop]; omega)
  · rw [Nat.min_eq_right (by omega), Nat.sub_self, List.take_zero, List.drop_of_length_le (by omega)]
theorem cut_take {α : Type} (xs : List α) (n : Nat) : cutL xs none (some (n : Int)) = xs.take n := by
  unfold cutL
  rw [HT.sIx_nat, HT.sIx_none, List.drop_zero, Nat.sub_zero]
  by_cases h : n ≤ xs.length
  · rw [Nat.min_eq_left h]
  · rw [Nat.min_eq_right (by omega), List.take_of_length_le (Nat.le_refl _), List.take_of_length_le (by omega)]
theorem dedup_len : ∀ (l acc : List Int), acc.Nodup → (l.foldl step_dedup acc).length ≤ acc.length + l.length ∧ ((l.foldl step_dedup acc).length = acc.length + l.length ↔ (acc ++ l).Nodup)
  | [], acc, h => by
    refine ⟨Nat.le_refl _, fun _ => ?_, fun _ => rfl⟩
    rw [List.append_nil]; exact h
  | x :: l, acc, h => by
    have hs : step_dedup acc x = if x ∈ acc then acc else acc ++ [x] := by
      show (if (acc.any fun y => y == x) = true then acc else acc ++ [x]) = _
      by_cases hx : x ∈ acc
      · rw [if_pos hx, if_pos (List.any_eq_true.mpr ⟨x, hx, by simp⟩)]
      · rw [if_neg hx, if_neg]
        intro z
        obtain ⟨y, hy, e⟩ := List.any_eq_true.mp z
        exact hx ((by simpa using e : y = x) ▸ hy)
    rw [List.foldl_cons, hs, List.length_cons]
    by_cases hx : x ∈ acc
    · rw [if_pos hx]
      obtain ⟨h1, h2⟩ := dedup_len l acc h
      refine ⟨by omega, fun e => by omega, fun nd => ?_⟩
      exact absurd rfl ((List.nodup_append.mp nd).2.2 x hx x (List.mem_cons_self ..))
    · rw [if_neg hx]
      have nd' : (acc ++ [x]).Nodup := List.nodup_append.mpr ⟨h, by simp, fun a ha b hb e => hx (by rw [← List.mem_singleton.mp hb, ← e]; exact ha)⟩
      obtain ⟨h1, h2⟩ := dedup_len l (acc ++ [x]) nd'
      rw [List.length_append, List.length_singleton] at h1 h2
      rw [List.append_assoc, List.singleton_append] at h2
      exact ⟨by omega, fun e => h2.mp (by omega), fun nd => by have := h2.mpr nd; omega⟩
theorem setSize_lt (ns : List Int) : decide (setSize ns < (ns.length : Nat)) = !decide ns.Nodup := by
  have e : (List.range ns.length).map (fun i => ns.getD i 0) = ns := by
    refine List.ext_getElem (by simp) fun i h1 h2 => ?_
    simp [List.getD_eq_getElem?_getD, List.getElem?_eq_getElem h2]
  obtain ⟨h1, h2⟩ := dedup_len ns [] List.nodup_nil
  have hs : setSize ns = ((ns.foldl step_dedup []).length : Nat) := by
    unfold setSize firstMet
    rw [e]
  rw [hs]
  simp only [List.length_nil, Nat.zero_add, List.nil_append] at h1 h2
  by_cases nd : ns.Nodup
  · rw [decide_eq_true nd]
    have := h2.mpr nd
    exact decide_eq_false (by omega)
  · rw [decide_eq_false nd]
    have : ¬ (ns.foldl step_dedup []).length = ns.length := fun z => nd (h2.mp z)
    exact decide_eq_true (by omega)
theorem insS_perm (x : Str) : ∀ l : List Str, (insS x l).Perm (x :: l)
  | [] => List.Perm.refl _
  | y :: l => by
    show (if leS x y = true then x :: y :: l else y :: insS x l).Perm _
    split
    · exact List.Perm.refl _
    · exact ((insS_perm x l).cons y).trans (List.Perm.swap ..)
theorem sortS_perm : ∀ l : List Str, (sortS l).Perm l
  | [] => List.Perm.refl _
  | x :: l => (insS_perm x (sortS l)).trans ((sortS_perm l).cons x)
abbrev Lay (x : Str) : Prop := PyData.canLay0 (toPy (.str x)) = true
theorem shaped_lst (xs : List Str) (h : ∀ x ∈ xs, Lay x) : SeqAt.shaped (toPy (txts xs)) = true := by
  have := shaped_strs xs fun x hx => h x hx
  exact this
theorem eqv_txts : ∀ xs ys : List Str, PyData.eqvAll (toPys (xs.map D.str)) (toPys (ys.map D.str)) = decide (xs = ys)
  | [], [] => rfl
  | [], y :: ys => rfl
  | x :: xs, [] => rfl
  | x :: xs, y :: ys => by
    show ((x == y) && PyData.eqvAll (toPys (xs.map D.str)) (toPys (ys.map D.str))) = _
    rw [eqv_txts xs ys, Bool.eq_iff_iff]
    simp
theorem eqd_txts {xs ys : List Str} (h : ∀ x ∈ xs, Lay x) (h2 : ∀ x ∈ ys, Lay x) : eqD (txts xs) (txts ys) = some (decide (xs = ys)) := by
  show (if SeqAt.shaped (toPy (txts xs)) = true ∧ SeqAt.shaped (toPy (txts ys)) = true then some (PyData.eqv (toPy (txts xs)) (toPy (txts ys))) else none) = _
  rw [if_pos ⟨shaped_lst xs h, shaped_lst ys h2⟩]
  exact congrArg some (eqv_txts xs ys)
theorem in_txts (l : List Str) (x : Str) : inD (.str x) (txts l) = some (decide (x ∈ l)) := by
  have hf : (l.map D.str).all flat = true := by
    rw [List.all_map]
    exact List.all_eq_true.mpr fun _ _ => rfl
  show (if flat (.str x) = true ∧ (l.map D.str).all flat = true then some ((l.map D.str).any fun y => eqF y (.str x)) else none) = _
  rw [if_pos ⟨rfl, hf⟩, List.any_map]
  congr 1
  rw [Bool.eq_iff_iff, List.any_eq_true, decide_eq_true_iff]
  constructor
  · rintro ⟨y, hy, e⟩
    have e : (y == x) = true := e
    exact (by simpa using e : y = x) ▸ hy
  · intro hx
    exact ⟨x, hx, by show (x == x) = true; simp⟩
theorem sorted_txts {xs : List Str} (h : xs.length < 64) : bltD .sorted (txts xs) = some (1, txts (sortS xs)) := by
  show (match strsD (xs.map D.str) with
    | some xs => if xs.length < 64 then some (1, D.lst ((sortS xs).map .str)) else none
    | none => none) = _
  rw [strsD_map]
  dsimp only
  rw [if_pos h]; rfl
theorem keyStrs_dD : ∀ dl : Dl, keyStrs (dl.map kvI) = some (dl.map (·.1))
  | [] => rfl
  | p :: S => by
    show (keyStrs (S.map kvI)).map (p.1 :: ·) = _
    rw [keyStrs_dD S]; rfl
theorem sorted_dD {dl : Dl} (h : dl.length < 64) : bltD .sorted (dD dl) = some (1, txts (sortS (dl.map (·.1)))) := by
  show (match keyStrs (dl.map kvI) with
    | some xs => if xs.length < 64 then some (1, D.lst ((sortS xs).map .str)) else none
    | none => none) = _
  rw [keyStrs_dD]
  dsimp only
  rw [if_pos (by rw [List.length_map]; exact h)]; rfl
theorem sorted_sts {S : Sts} (h : S.length < 64) : bltD .sorted (sts S) = some (1, txts (sortS (S.map (·.1)))) := by
  show (match keyStrs (S.map kvS) with
    | some xs => if xs.length < 64 then some (1, D.lst ((sortS xs).map .str)) else none
    | none => none) = _
  rw [keyStrs_sts]
  dsimp only
  rw [if_pos (by rw [List.length_map]; exact h)]; rfl
theorem add_txts {xs ys : List Str} (h : xs.length + ys.length ≤ cap) : binD .add (txts xs) (txts ys) = some (1, txts (xs ++ ys)) := by
  show (if (xs.map D.str).length + (ys.map D.str).length ≤ cap then some (1, D.lst (xs.map D.str ++ ys.map D.str)) else none) = _
  rw [if_pos (by rw [List.length_map, List.length_map]; exact h), ← List.map_append]; rfl
theorem sets_map : ∀ rs : List Rw, (rs.filter fun r => r.sets.isSome).map (fun r => optS r.sets) = (setsL rs).map D.str
  | [] => rfl
  | r :: rs => by
    have : setsL (r :: rs) = r.sets.toList ++ setsL rs := rfl
    rw [this, List.map_append, ← sets_map rs]
    cases hs : r.sets with
    | none => rw [List.filter_cons_of_neg (by rw [hs]; decide)]; rfl
    | some x => rw [List.filter_cons_of_pos (by rw [hs]; rfl), List.map_cons, hs]; rfl
theorem setsL_len (rs : List Rw) : (setsL rs).length ≤ rs.length := by
  unfold setsL
  rw [List.length_flatten, List.map_map]
  have : ∀ l : List Rw, (l.map (List.length ∘ fun r => r.sets.toList)).sum ≤ l.length := fun l => by
    induction l with
    | nil => exact Nat.le_refl _
    | cons r l ih =>
      rw [List.map_cons, List.sum_cons, List.length_cons]
      have : (List.length ∘ fun r : Rw => r.sets.toList) r ≤ 1 := by
        show r.sets.toList.length ≤ 1
        cases r.sets <;> simp
      omega
  exact this rs
theorem needs_len (r : Rw) : r.needs.length ≤ 2 := by cases r <;> simp [Rw.needs]
theorem needsL_len : ∀ rs : List Rw, (needsL rs).length ≤ 2 * rs.length
  | [] => Nat.zero_le _
  | r :: rs => by
    have : needsL (r :: rs) = r.needs ++ needsL rs := rfl
    have h1 := needs_len r
    have h2 := needsL_len rs
    rw [this, List.length_append, List.length_cons]
    omega
end K9

set_option Elab.async false
set_option linter.all false
set_option maxRecDepth 100000
set_option maxHeartbeats 4000000
/-! k09, part Xb: the law's own count. -/
namespace K9
open PySem PySem.Spec PyProof.Rows L2 PV
abbrev setE (i : Nat) : Exp := .call "_law_sets" (.cons (.var i) .nil) [] .nil
/-- what rows set: the comprehension, at any slots -/
theorem sets_lc (k : Nat) {own : List Nat} {i : Nat} {it : Exp} {ρ : Ro} {rs : List Rw} (hi : evI (CC (k + 1)) G it ρ = some (rs.map Rw.d)) (hr : ∀ d : D, ((wipeR ρ own).set i (some d))[i]? = some (some d)) :
    ev (CC (k + 1)) G (.lc own (.one i) it (.cmp .isnot (setE i) .non) (setE i)) ρ = some (1, txts (setsL rs)) := by
  have hc : ∀ r : Rw, ev (CC (k + 1)) G (setE i) ((wipeR ρ own).set i (some r.d)) = some (0, optS r.sets) := fun r => by
    have g := hr r.d
    simp only [ev, evs, g]
    exact law_sets_ok k r
  refine (ev_lc hi (lc_rule Rw.d (fun r => r.sets.isSome) (fun r => optS r.sets) fun r _ => ⟨_, rfl, ⟨0, ?_⟩, fun _ => ⟨0, hc r⟩⟩)).trans ?_
  · rw [ev, hc]
    cases r.sets <;> rfl
  · rw [sets_map]; rfl
abbrev atEnv (rs : List Rw) (tk ls : List Str) (pl : Nat) (x4 x5 x6 x7 x8 : Option (Nat × D)) : PV.Env := [some (0, rowsD rs), some (0, txts tk), some (0, txts ls), some (0, .int (pl : Nat)), x4, x5, x6, x7, x8, none]
theorem slc_lo (C : CT) {ρ : Ro} {rs : List Rw} {pl : Nat} (h0 : ρ[0]? = some (some (rowsD rs))) (h3 : ρ[3]? = some (some (.int (pl : Nat)))) : evI C G (.itn (.slc (.var 0) .nil (.itr (.var 3)))) ρ = some ((rs.take pl).map Rw.d) := by
  have : ev C G (.slc (.var 0) .nil (.itr (.var 3))) ρ = some (1, .lst ((rs.take pl).map Rw.d)) := by
    simp only [ev, evO, h0, h3]
    show some (1, D.lst (cutL (rs.map Rw.d) none (some (pl : Int)))) = _
    rw [cut_take, List.map_take]
  simp only [evI, this]
theorem slc_hi (C : CT) {ρ : Ro} {rs : List Rw} {pl : Nat} (h0 : ρ[0]? = some (some (rowsD rs))) (h3 : ρ[3]? = some (some (.int (pl : Nat)))) : evI C G (.itn (.slc (.var 0) (.itr (.var 3)) .nil)) ρ = some ((rs.drop pl).map Rw.d) := by
  have : ev C G (.slc (.var 0) (.itr (.var 3)) .nil) ρ = some (1, .lst ((rs.drop pl).map Rw.d)) := by
    simp only [ev, evO, h0, h3]
    show some (1, D.lst (cutL (rs.map Rw.d) (some (pl : Int)) none)) = _
    rw [cut_drop, List.map_drop]
  simp only [evI, this]
theorem later_loop (k : Nat) {rs : List Rw} {tk ls : List Str} {pl : Nat} {a : List Str} : ∀ (qs : List Rw) (l : List Str) (x6 : Option (Nat × D)), (x6 = none ∨ ∃ d, x6 = some (0, d)) → l.length + 2 * qs.length ≤ cap →
    ∃ y6, (y6 = none ∨ ∃ d, y6 = some (0, d)) ∧ forL (.one 6) (fun r => PV.exec (CC (k + 1)) G W (.cons (.set 5 (.bin .add (.var 5) (.call "_law_needs" (.cons (.var 6) .nil) [] .nil))) .nil) r) (qs.map Rw.d) (atEnv rs tk ls pl (some (1, txts a)) (some (1, txts l)) x6 none none) = some (.nx (atEnv rs tk ls pl (some (1, txts a)) (some (1, txts (l ++ needsL qs))) y6 none none))
  | [], l, x6, h6, _ => ⟨x6, h6, by show some _ = _; rw [show l ++ needsL [] = l from List.append_nil l]⟩
  | q :: qs, l, x6, h6, hl => by
    rw [List.length_cons] at hl
    have hn := needs_len q
    obtain ⟨y6, hy, ih⟩ := later_loop k (rs := rs) (tk := tk) (ls := ls) (pl := pl) (a := a) qs (l ++ q.needs) (some (0, q.d)) (.inr ⟨_, rfl⟩) (by rw [List.length_append]; omega)
    refine ⟨y6, hy, ?_⟩
    have ea : asgE (.one 6) q.d (atEnv rs tk ls pl (some (1, txts a)) (some (1, txts l)) x6 none none) = some (atEnv rs tk ls pl (some (1, txts a)) (some (1, txts l)) (some (0, q.d)) none none) := rfl
    have e : PV.exec (CC (k + 1)) G W (.cons (.set 5 (.bin .add (.var 5) (.call "_law_needs" (.cons (.var 6) .nil) [] .nil))) .nil) (atEnv rs tk ls pl (some (1, txts a)) (some (1, txts l)) (some (0, q.d)) none none) = some (.nx (atEnv rs tk ls pl (some (1, txts a)) (some (1, txts (l ++ q.needs))) (some (0, q.d)) none none)) := by
      refine (ex_nx (ex_set (i := 5) (k := 1) (d := txts (l ++ q.needs)) (evS_ns ?_ (nosh_txts _)))).trans rfl
      show ev (CC (k + 1)) G _ [some (rowsD rs), some (txts tk), some (txts ls), some (.int (pl : Nat)), none, some (txts l), some q.d, none, none, none] = _
      simp only [ev, evs, List.getElem?_cons_zero, List.getElem?_cons_succ, law_needs_ok k q]
      exact add_txts (by omega)
    rw [List.map_cons]
    unfold forL
    rw [ea]
    dsimp only
    rw [e]
    dsimp only
    rw [ih]
    have : needsL (q :: qs) = q.needs ++ needsL qs := rfl
    rw [this, List.append_assoc]
theorem used_loop (k : Nat) {rs : List Rw} {tk ls : List Str} {pl : Nat} {a b f : List Str} : ∀ (qs : List Rw) (l : List Str) (x6 : Option (Nat × D)), (x6 = none ∨ ∃ d, x6 = some (0, d)) → l.length + 2 * qs.length ≤ cap →
    ∃ y6, (y6 = none ∨ ∃ d, y6 = some (0, d)) ∧ forL (.one 6) (fun r => PV.exec (CC (k + 1)) G W (.cons (.set 8 (.bin .add (.var 8) (.call "_law_needs" (.cons (.var 6) .nil) [] .nil))) .nil) r) (qs.map Rw.d) (atEnv rs tk ls pl (some (1, txts a)) (some (1, txts b)) x6 (some (1, txts f)) (some (1, txts l))) = some (.nx (atEnv rs tk ls pl (some (1, txts a)) (some (1, txts b)) y6 (some (1, txts f)) (some (1, txts (l ++ needsL qs)))))
  | [], l, x6, h6, _ => ⟨x6, h6, by show some _ = _; rw [show l ++ needsL [] = l from List.append_nil l]⟩
  | q :: qs, l, x6, h6, hl => by
    rw [List.length_cons] at hl
    have hn := needs_len q
    obtain ⟨y6, hy, ih⟩ := used_loop k (rs := rs) (tk := tk) (ls := ls) (pl := pl) (a := a) (b := b) (f := f) qs (l ++ q.needs) (some (0, q.d)) (.inr ⟨_, rfl⟩) (by rw [List.length_append]; omega)
    refine ⟨y6, hy, ?_⟩
    have ea : asgE (.one 6) q.d (atEnv rs tk ls pl (some (1, txts a)) (some (1, txts b)) x6 (some (1, txts f)) (some (1, txts l))) = some (atEnv rs tk ls pl (some (1, txts a)) (some (1, txts b)) (some (0, q.d)) (some (1, txts f)) (some (1, txts l))) := rfl
    have e : PV.exec (CC (k + 1)) G W (.cons (.set 8 (.bin .add (.var 8) (.call "_law_needs" (.cons (.var 6) .nil) [] .nil))) .nil) (atEnv rs tk ls pl (some (1, txts a)) (some (1, txts b)) (some (0, q.d)) (some (1, txts f)) (some (1, txts l))) = some (.nx (atEnv rs tk ls pl (some (1, txts a)) (some (1, txts b)) (some (0, q.d)) (some (1, txts f)) (some (1, txts (l ++ q.needs))))) := by
      refine (ex_nx (ex_set (i := 8) (k := 1) (d := txts (l ++ q.needs)) (evS_ns ?_ (nosh_txts _)))).trans rfl
      show ev (CC (k + 1)) G _ [some (rowsD rs), some (txts tk), some (txts ls), some (.int (pl : Nat)), none, none, some q.d, none, some (txts l), none] = _
      simp only [ev, evs, List.getElem?_cons_zero, List.getElem?_cons_succ, law_needs_ok k q]
      exact add_txts (by omega)
    rw [List.map_cons]
    unfold forL
    rw [ea]
    dsimp only
    rw [e]
    dsimp only
    rw [ih]
    have : needsL (q :: qs) = q.needs ++ needsL qs := rfl
    rw [this, List.append_assoc]
abbrev prevE : Exp := .call "_law_sets" (.cons (.idx (.var 0) (.bin .sub (.var 3) (.int 1))) .nil) [] .nil
theorem prev_ok (k : Nat) {ρ : Ro} {rs : List Rw} {p : Nat} {r : Rw} (h0 : ρ[0]? = some (some (rowsD rs))) (h3 : ρ[3]? = some (some (.int ((p + 1 : Nat) : Int)))) (hr : rs[p]? = some r) : ev (CC (k + 1)) G prevE ρ = some (0, optS r.sets) := by
  have hix : idxD (rowsD rs) (.int (((p + 1 : Nat) : Int) - 1)) = some r.d := by
    show atI (rs.map Rw.d) (((p + 1 : Nat) : Int) - 1) = _
    rw [show (((p + 1 : Nat) : Int) - 1) = ((p : Nat) : Int) by omega]
    exact atI_nat (by rw [List.getElem?_map, hr]; rfl)
  simp only [ev, evs, h0, h3, binD, hix, Option.map_some]
  exact law_sets_ok k r
theorem and_f {C : CT} {ρ : Ro} {a b : Exp} {k : Nat} (h1 : ev C G a ρ = some (k, .bl false)) : ev C G (.and_ a b) ρ = some (0, .bl false) := by
  rw [ev, h1]
theorem and_t {C : CT} {ρ : Ro} {a b : Exp} {k j : Nat} {c : Bool} (h1 : ev C G a ρ = some (k, .bl true)) (h2 : ev C G b ρ = some (j, .bl c)) : ev C G (.and_ a b) ρ = some (0, .bl c) := by
  rw [ev, h1]
  dsimp only
  rw [h2]
theorem law_at_ok (k : Nat) {rs : List Rw} {tk ls : List Str} {pl : Nat} (hp : pl ≤ rs.length) (hr : rs.length ≤ 20) (ht : tk.length ≤ 8) (hl : ls.length ≤ 8) : CC (k + 2) (.fn "_law_at") [rowsD rs, txts tk, txts ls, .int (pl : Nat)] [] [] = some (1, txts (lawAt rs tk ls pl)) := by
  show runD (CC (k + 1)) G W d_law_at [rowsD rs, txts tk, txts ls, .int (pl : Nat)] = _
  have hcap : (cap : Nat) = 100000 := rfl
  have ltake : (setsL (rs.take pl)).length ≤ 20 := by
    have := setsL_len (rs.take pl)
    rw [List.length_take] at this
    omega
  have c1 : PV.exec (CC (k + 1)) G W (.set 4 (.bin .add (.blt .list (.var 1)) (.lc [6] (.one 6) (.itn (.slc (.var 0) .nil (.itr (.var 3)))) (.cmp .isnot (setE 6) .non) (setE 6)))) (atEnv rs tk ls pl none none none none none) = some (.nx (atEnv rs tk ls pl (some (1, txts (tk ++ setsL (rs.take pl)))) none none none none)) := by
    refine (ex_set (k := 1) (d := txts (tk ++ setsL (rs.take pl))) (evS_ns ?_ (nosh_txts _))).trans rfl
    show ev (CC (k + 1)) G _ [some (rowsD rs), some (txts tk), some (txts ls), some (.int (pl : Nat)), none, none, none, none, none, none] = _
    have e2 := sets_lc k (own := [6]) (i := 6) (ρ := [some (rowsD rs), some (txts tk), some (txts ls), some (.int (pl : Nat)), none, none, none, none, none, none]) (slc_lo (CC (k + 1)) (rs := rs) (pl := pl) rfl rfl) (fun _ => rfl)
    have e1 : ev (CC (k + 1)) G (.blt .list (.var 1)) [some (rowsD rs), some (txts tk), some (txts ls), some (.int (pl : Nat)), none, none, none, none, none, none] = some (1, txts tk) := rfl
    rw [ev, e1, e2]
    exact add_txts (by omega)
  have c2 : PV.exec (CC (k + 1)) G W (.set 5 (.blt .list (.var 2))) (atEnv rs tk ls pl (some (1, txts (tk ++ setsL (rs.take pl)))) none none none none) = some (.nx (atEnv rs tk ls pl (some (1, txts (tk ++ setsL (rs.take pl)))) (some (1, txts ls)) none none none)) :=
    (ex_set (k := 1) (d := txts ls) (evS_ns rfl (nosh_txts _))).trans rfl
  obtain ⟨y6, hy6, c3'⟩ := later_loop k (rs := rs) (tk := tk) (ls := ls) (pl := pl) (a := tk ++ setsL (rs.take pl)) (rs.drop pl) ls none (.inl rfl) (by rw [List.length_drop]; omega)
  have c3 : PV.exec (CC (k + 1)) G W (.for_ (.one 6) (.itn (.slc (.var 0) (.itr (.var 3)) .nil)) (.cons (.set 5 (.bin .add (.var 5) (.call "_law_needs" (.cons (.var 6) .nil) [] .nil))) .nil)) (atEnv rs tk ls pl (some (1, txts (tk ++ setsL (rs.take pl)))) (some (1, txts ls)) none none none) = some (.nx (atEnv rs tk ls pl (some (1, txts (tk ++ setsL (rs.take pl)))) (some (1, txts (ls ++ needsL (rs.drop pl)))) y6 none none)) :=
    (ex_for (ds := (rs.drop pl).map Rw.d) rfl (slc_hi (CC (k + 1)) rfl rfl)).trans c3'
  have e4 : ∀ z6 : Option D, ev (CC (k + 1)) G (.lc [9] (.one 9) (.itr (.var 4)) (.cmp .isin (.var 9) (.var 5)) (.var 9)) [some (rowsD rs), some (txts tk), some (txts ls), some (.int (pl : Nat)), some (txts (tk ++ setsL (rs.take pl))), some (txts (ls ++ needsL (rs.drop pl))), z6, none, none, none] = some (1, txts ((tk ++ setsL (rs.take pl)).filter fun x => decide (x ∈ ls ++ needsL (rs.drop pl)))) := fun z6 => by
    refine ev_lc (ds := (tk ++ setsL (rs.take pl)).map D.str) rfl (lc_rule D.str (fun x => decide (x ∈ ls ++ needsL (rs.drop pl))) D.str fun x _ => ⟨_, rfl, ⟨0, ?_⟩, fun _ => ⟨0, rfl⟩⟩)
    simp only [wipeR, List.set, ev, List.getElem?_cons_zero, List.getElem?_cons_succ, cmpD, in_txts, Option.map_some]
  have c4 : PV.exec (CC (k + 1)) G W (.set 7 (.lc [9] (.one 9) (.itr (.var 4)) (.cmp .isin (.var 9) (.var 5)) (.var 9))) (atEnv rs tk ls pl (some (1, txts (tk ++ setsL (rs.take pl)))) (some (1, txts (ls ++ needsL (rs.drop pl)))) y6 none none) = some (.nx (atEnv rs tk ls pl (some (1, txts (tk ++ setsL (rs.take pl)))) (some (1, txts (ls ++ needsL (rs.drop pl)))) y6 (some (1, txts ((tk ++ setsL (rs.take pl)).filter fun x => decide (x ∈ ls ++ needsL (rs.drop pl))))) none)) := by
    refine (ex_set (k := 1) (d := txts ((tk ++ setsL (rs.take pl)).filter fun x => decide (x ∈ ls ++ needsL (rs.drop pl)))) (evS_ns ?_ (nosh_txts _))).trans rfl
    rcases hy6 with rfl | ⟨d6, rfl⟩
    · exact e4 none
    · exact e4 (some d6)
  generalize ha : tk ++ setsL (rs.take pl) = a at *
  generalize hb : ls ++ needsL (rs.drop pl) = b at *
  generalize hf : (a.filter fun x => decide (x ∈ b)) = f at *
  have c5 : PV.exec (CC (k + 1)) G W (.set 8 (.blt .list (.var 2))) (atEnv rs tk ls pl (some (1, txts a)) (some (1, txts b)) y6 (some (1, txts f)) none) = some (.nx (atEnv rs tk ls pl (some (1, txts a)) (some (1, txts b)) y6 (some (1, txts f)) (some (1, txts ls)))) := by
    refine (ex_set (k := 1) (d := txts ls) (evS_ns ?_ (nosh_txts _))).trans rfl
    rcases hy6 with rfl | ⟨d6, rfl⟩ <;> rfl
  obtain ⟨w6, hw6, c6'⟩ := used_loop k (rs := rs) (tk := tk) (ls := ls) (pl := pl) (a := a) (b := b) (f := f) rs ls y6 hy6 (by omega)
  have c6 : PV.exec (CC (k + 1)) G W (.for_ (.one 6) (.itr (.var 0)) (.cons (.set 8 (.bin .add (.var 8) (.call "_law_needs" (.cons (.var 6) .nil) [] .nil))) .nil)) (atEnv rs tk ls pl (some (1, txts a)) (some (1, txts b)) y6 (some (1, txts f)) (some (1, txts ls))) = some (.nx (atEnv rs tk ls pl (some (1, txts a)) (some (1, txts b)) w6 (some (1, txts f)) (some (1, txts (ls ++ needsL rs))))) := by
    refine (ex_for (ds := rs.map Rw.d) ?_ ?_).trans (Eq.trans ?_ c6')
    · rcases hy6 with rfl | ⟨d6, rfl⟩ <;> rfl
    · rcases hy6 with rfl | ⟨d6, rfl⟩ <;> rfl
    · rcases hy6 with rfl | ⟨d6, rfl⟩ <;> rfl
  have c7 : PV.exec (CC (k + 1)) G W (.ite (.and_ (.cmp .gt (.var 3) (.int 0)) (.and_ (.cmp .isnot prevE .non) (.cmp .notin prevE (.var 8)))) (.cons (.app 7 prevE) .nil) .nil) (atEnv rs tk ls pl (some (1, txts a)) (some (1, txts b)) w6 (some (1, txts f)) (some (1, txts (ls ++ needsL rs)))) = some (.nx (atEnv rs tk ls pl (some (1, txts a)) (some (1, txts b)) w6 (some (1, txts (f ++ lastL rs (ls ++ needsL rs) pl))) (some (1, txts (ls ++ needsL rs))))) := by
    have hx : ∀ m : List Nat, ∃ z4 z5 z6 z7 : Option D, ∃ z8 : Option D, (8 ∈ m → z8 = some (txts (ls ++ needsL rs))) ∧ expose m 0 (atEnv rs tk ls pl (some (1, txts a)) (some (1, txts b)) w6 (some (1, txts f)) (some (1, txts (ls ++ needsL rs)))) = [some (rowsD rs), some (txts tk), some (txts ls), some (.int (pl : Nat)), z4, z5, z6, z7, z8, none] := fun m => by
      rcases hw6 with rfl | ⟨d6, rfl⟩
      · refine ⟨_, _, _, _, _, fun h8 => ?_, rfl⟩
        exact if_pos (Or.inr h8)
      · refine ⟨_, _, _, _, _, fun h8 => ?_, rfl⟩
        exact if_pos (Or.inr h8)
    obtain ⟨z4, z5, z6, z7, z8, hz8, hex⟩ := hx (fv (.and_ (.cmp .gt (.var 3) (.int 0)) (.and_ (.cmp .isnot prevE .non) (.cmp .notin prevE (.var 8)))))
    have hz8 := hz8 (by decide)
    subst hz8
    have hgt : ev (CC (k + 1)) G (.cmp .gt (.var 3) (.int 0)) [some (rowsD rs), some (txts tk), some (txts ls), some (.int (pl : Nat)), z4, z5, z6, z7, some (txts (ls ++ needsL rs)), none] = some (0, .bl (decide ((0 : Int) < (pl : Nat)))) := rfl
    have skip : ∀ g : List Str, g = f → (some (Out.nx (atEnv rs tk ls pl (some (1, txts a)) (some (1, txts b)) w6 (some (1, txts f)) (some (1, txts (ls ++ needsL rs))))) : Option Out) = some (.nx (atEnv rs tk ls pl (some (1, txts a)) (some (1, txts b)) w6 (some (1, txts g)) (some (1, txts (ls ++ needsL rs))))) := fun g e => by rw [e]
    cases pl with
    | zero =>
      refine (ex_false (evB_of (k := 0) ?_)).trans (ex_nil.trans (skip _ (List.append_nil f)))
      rw [hex]
      exact and_f hgt
    | succ p =>
      have hlt : p < rs.length := by omega
      have hrp : rs[p]? = some rs[p] := List.getElem?_eq_getElem hlt
      rw [decide_eq_true (by omega)] at hgt
      have hpv := prev_ok k (rs := rs) (p := p) (ρ := [some (rowsD rs), some (txts tk), some (txts ls), some (.int ((p + 1 : Nat) : Int)), z4, z5, z6, z7, some (txts (ls ++ needsL rs)), none]) rfl rfl hrp
      have hlast : lastL rs (ls ++ needsL rs) (p + 1) = match rs[p].sets with
        | some x => if x ∈ ls ++ needsL rs then [] else [x]
        | none => [] := by rw [lastL_succ, hrp] <;> rfl
      cases hs : rs[p].sets with
      | none =>
        rw [hs] at hpv hlast
        refine (ex_false (evB_of (k := 0) ?_)).trans (ex_nil.trans (skip _ (by rw [hlast]; exact List.append_nil f)))
        rw [hex]
        exact and_t hgt (and_f (k := 0) (by rw [ev, hpv]; rfl))
      | some x =>
        rw [hs] at hpv hlast
        dsimp only at hlast
        have h2 : ev (CC (k + 1)) G (.cmp .notin prevE (.var 8)) [some (rowsD rs), some (txts tk), some (txts ls), some (.int ((p + 1 : Nat) : Int)), z4, z5, z6, z7, some (txts (ls ++ needsL rs)), none] = some (0, .bl (!decide (x ∈ ls ++ needsL rs))) := by
          have e8 : ev (CC (k + 1)) G (.var 8) [some (rowsD rs), some (txts tk), some (txts ls), some (.int ((p + 1 : Nat) : Int)), z4, z5, z6, z7, some (txts (ls ++ needsL rs)), none] = some (0, txts (ls ++ needsL rs)) := rfl
          rw [ev, hpv, e8]
          simp only [cmpD, optS, in_txts, Option.map_some]
        have h1 : ev (CC (k + 1)) G (.cmp .isnot prevE .non) [some (rowsD rs), some (txts tk), some (txts ls), some (.int ((p + 1 : Nat) : Int)), z4, z5, z6, z7, some (txts (ls ++ needsL rs)), none] = some (0, .bl true) := by
          rw [ev, hpv]; rfl
        by_cases hu : x ∈ ls ++ needsL rs
        · rw [if_pos hu] at hlast
          refine (ex_false (evB_of (k := 0) ?_)).trans (ex_nil.trans (skip _ (by rw [hlast]; exact List.append_nil f)))
          rw [hex]
          refine and_t hgt (and_t (j := 0) h1 (h2.trans ?_))
          rw [decide_eq_true hu]; rfl
        · rw [if_neg hu] at hlast
          refine (ex_true (evB_of (k := 0) ?_)).trans ?_
          · rw [hex]
            refine and_t hgt (and_t (j := 0) h1 (h2.trans ?_))
            rw [decide_eq_false hu]; rfl
          · rw [hlast]
            obtain ⟨z4, z5, z6, z7, z8, _, hex⟩ := hx (fv prevE)
            have hpv := prev_ok k (rs := rs) (p := p) (ρ := [some (rowsD rs), some (txts tk), some (txts ls), some (.int ((p + 1 : Nat) : Int)), z4, z5, z6, z7, z8, none]) rfl rfl hrp
            rw [hs] at hpv
            refine (ex_nx (ex_app (i := 7) (xs0 := f.map D.str) (xs := f.map D.str) (k := 0) (d := .str x) rfl (evS_ns ?_ rfl) rfl ?_)).trans ?_
            · rw [hex]; exact hpv
            · rw [List.length_map, ← hf]
              have := List.length_filter_le (fun x => decide (x ∈ b)) a
              have h3 := congrArg List.length ha
              rw [List.length_append] at h3
              omega
            · rw [ex_nil]
              have : txts (f ++ [x]) = .lst (f.map D.str ++ [.str x]) := by unfold txts; rw [List.map_append]; rfl
              rw [this]; rfl
  have c8 : PV.exec (CC (k + 1)) G W (.ret (.bin .add (.var 7) (.lc [9] (.one 9) (.itr (.var 1)) (.and_ (.cmp .eq (.var 3) (.int 0)) (.cmp .notin (.var 9) (.var 8))) (.var 9)))) (atEnv rs tk ls pl (some (1, txts a)) (some (1, txts b)) w6 (some (1, txts (f ++ lastL rs (ls ++ needsL rs) pl))) (some (1, txts (ls ++ needsL rs)))) = some (.rt 1 (txts (lawAt rs tk ls pl))) := by
    have e : ∀ z6 : Option D, ev (CC (k + 1)) G (.bin .add (.var 7) (.lc [9] (.one 9) (.itr (.var 1)) (.and_ (.cmp .eq (.var 3) (.int 0)) (.cmp .notin (.var 9) (.var 8))) (.var 9))) [some (rowsD rs), some (txts tk), some (txts ls), some (.int (pl : Nat)), none, none, z6, some (txts (f ++ lastL rs (ls ++ needsL rs) pl)), some (txts (ls ++ needsL rs)), none] = some (1, txts (lawAt rs tk ls pl)) := fun z6 => by
      have l : ev (CC (k + 1)) G (.lc [9] (.one 9) (.itr (.var 1)) (.and_ (.cmp .eq (.var 3) (.int 0)) (.cmp .notin (.var 9) (.var 8))) (.var 9)) [some (rowsD rs), some (txts tk), some (txts ls), some (.int (pl : Nat)), none, none, z6, some (txts (f ++ lastL rs (ls ++ needsL rs) pl)), some (txts (ls ++ needsL rs)), none] = some (1, txts (tk.filter fun x => decide (pl = 0) && !decide (x ∈ ls ++ needsL rs))) := by
        refine ev_lc (ds := tk.map D.str) rfl (lc_rule D.str (fun x => decide (pl = 0) && !decide (x ∈ ls ++ needsL rs)) D.str fun x _ => ⟨_, rfl, ⟨0, ?_⟩, fun _ => ⟨0, rfl⟩⟩)
        have hd : decide (((pl : Nat) : Int) = 0) = decide (pl = 0) := by
          by_cases h : pl = 0
          · rw [decide_eq_true h, decide_eq_true (by omega)]
          · rw [decide_eq_false h, decide_eq_false (by omega)]
        simp only [wipeR, List.set, ev, List.getElem?_cons_zero, List.getElem?_cons_succ, cmpD, in_txts, eqd_int, hd, Option.map_some]
        cases decide (pl = 0) <;> rfl
      have e7 : ev (CC (k + 1)) G (.var 7) [some (rowsD rs), some (txts tk), some (txts ls), some (.int (pl : Nat)), none, none, z6, some (txts (f ++ lastL rs (ls ++ needsL rs) pl)), some (txts (ls ++ needsL rs)), none] = some (0, txts (f ++ lastL rs (ls ++ needsL rs) pl)) := rfl
      rw [ev, e7, l]
      have hl1 : (f ++ lastL rs (ls ++ needsL rs) pl).length ≤ 1000 := by
        rw [List.length_append, ← hf]
        have h1 := List.length_filter_le (fun x => decide (x ∈ b)) a
        have h3 := congrArg List.length ha
        rw [List.length_append] at h3
        have h2 : (lastL rs (ls ++ needsL rs) pl).length ≤ 1 := by
          cases pl with
          | zero => exact Nat.zero_le _
          | succ p =>
            rw [lastL_succ]
            cases rs[p]? with
            | none => exact Nat.zero_le _
            | some r =>
              dsimp only
              cases r.sets with
              | none => exact Nat.zero_le _
              | some x => dsimp only; split <;> simp
        omega
      have hl2 := List.length_filter_le (fun x => decide (pl = 0) && !decide (x ∈ ls ++ needsL rs)) tk
      refine (add_txts (by omega)).trans ?_
      rw [← hf, ← ha, ← hb]; rfl
    refine ex_ret (evS_ns ?_ (nosh_txts _))
    rcases hw6 with rfl | ⟨d6, rfl⟩
    · exact e none
    · exact e (some d6)
  exact run_rt ((ex_nx c1).trans ((ex_nx c2).trans ((ex_nx c3).trans ((ex_nx c4).trans ((ex_nx c5).trans ((ex_nx c6).trans ((ex_nx c7).trans (ex_rt c8))))))))
end K9

set_option Elab.async false
set_option linter.all false
set_option maxRecDepth 100000
set_option maxHeartbeats 4000000
/-! k09, part Xc: _law_due, whole. -/
namespace K9
open PySem PySem.Spec PyProof.Rows L2 PV
theorem or_of {C : CT} {ρ : Ro} {a b : Exp} {k j : Nat} {x y : Bool} (h1 : ev C G a ρ = some (k, .bl x)) (h2 : ev C G b ρ = some (j, .bl y)) : ev C G (.or_ a b) ρ = some (0, .bl (x || y)) := by
  rw [ev, h1]
  cases x
  · dsimp only
    rw [h2]; rfl
  · rfl
theorem chain_of {C : CT} {ρ : Ro} {a b c : Exp} {o p : Cop} {k j l : Nat} {x y z : D} {u v : Bool} (h1 : ev C G a ρ = some (k, x)) (h2 : ev C G b ρ = some (j, y)) (h3 : ev C G c ρ = some (l, z)) (h4 : cmpD o x y = some u) (h5 : cmpD p y z = some v) : ev C G (.chain o p a b c) ρ = some (0, .bl (u && v)) := by
  rw [ev, h1, h2]
  dsimp only
  rw [h4]
  cases u
  · rfl
  · dsimp only
    rw [h3]
    dsimp only
    rw [h5]; rfl
theorem lenset_inL {ns : List Int} (hl : ns.length ≤ 4000) : bltD .lenset (inL ns) = some (0, .int (setSize ns)) := by
  show (match intsD (ns.map D.int) with
    | some ns => if ns.length ≤ 4000 then some (0, D.int (setSize ns)) else none
    | none => match strsD (ns.map D.int) with
      | some xs => if xs.length ≤ 60 then some (0, D.int (unlikeS xs : Nat)) else none
      | none => none) = _
  rw [intsD_map]
  dsimp only
  rw [if_pos hl]
theorem len_inL (ns : List Int) : bltD .len (inL ns) = some (0, .int (ns.length : Nat)) := by
  show some (0, D.int ((ns.map D.int).length : Nat)) = _
  rw [List.length_map]
theorem uniq_step {C : CT} {j : Nat} {ρ : PV.Env} {ns : List Int} (h : ρ[j]? = some (some (1, inL ns))) (hl : ns.length ≤ 4000) : PV.exec C G W (.cons (.ite (.cmp .lt (.blt .lenset (.var j)) (.blt .len (.var j))) (.cons (.ret (.bl false)) .nil) .nil) .nil) ρ = if ns.Nodup then some (.nx ρ) else some (.rt 0 (.bl false)) := by
  have g := exp_get (m := fv (.cmp .lt (.blt .lenset (.var j)) (.blt .len (.var j)))) (i := 0) (j := j) h (.inr (by simp [fv]))
  have e : evB C G (.cmp .lt (.blt .lenset (.var j)) (.blt .len (.var j))) ρ = some (!decide ns.Nodup) := by
    refine evB_of (k := 0) ?_
    simp only [ev, g, lenset_inL hl, len_inL, cmpD, Option.map_some, setSize_lt]
  by_cases nd : ns.Nodup
  · rw [if_pos nd]
    rw [decide_eq_true nd] at e
    exact (ex_nx ((ex_false e).trans ex_nil)).trans ex_nil
  · rw [if_neg nd]
    rw [decide_eq_false nd] at e
    exact ex_rt ((ex_true e).trans (ex_rt (ex_ret (k := 0) (d := .bl false) (evS_ns rfl rfl))))
theorem ok_sets {r : Rw} (h : r.ok) {x : Str} (hs : r.sets = some x) : x ∈ pool := by
  cases r with
  | set a k => cases hs; exact h.1
  | copy a b => cases hs; exact h.1
  | plus a b c => cases hs; exact h.1
  | less a b c => cases hs; exact h.1
  | times a b c => cases hs; exact h.1
  | under a b c => cases hs; exact h.1
  | peek a b => cases hs; exact h.1
  | poke a b => cases hs
  | tell a => cases hs
theorem Right.names {rs : List Rw} {tk ls : List Str} (h : Right rs tk ls) : ∀ x ∈ tk ++ setsL rs, x ∈ pool := fun x hx => by
  rcases List.mem_append.mp hx with hx | hx
  · exact h.tp x hx
  · obtain ⟨i, r, a, b⟩ := mem_setsL.mp hx
    exact ok_sets (h.rk r (List.mem_of_getElem? a)) b
theorem Right.nodup {rs : List Rw} {tk ls : List Str} (h : Right rs tk ls) : (tk ++ setsL rs).Nodup := strt_nodup rs tk h.tn h.st
theorem Right.len {rs : List Rw} {tk ls : List Str} (h : Right rs tk ls) : (tk ++ setsL rs).length ≤ 28 := by
  have := setsL_len rs
  have := h.tl
  have := h.rl
  rw [List.length_append]
  omega
theorem hv_some : ∀ {dl : Dl} {x : Str}, x ∈ dl.map (·.1) → (hv dl x).isSome = true := fun {dl x} h => by
  unfold hv
  rw [Option.isSome_map, List.find?_isSome]
  obtain ⟨p, hp, e⟩ := List.mem_map.mp h
  exact ⟨p, hp, decide_eq_true e⟩
theorem idx_hand {dl : Dl} {x : Str} (h : x ∈ dl.map (·.1)) : idxD (dD dl) (.str x) = some (.int (handOf dl x)) := by
  rw [idx_dD]
  unfold handOf
  have := hv_some h
  cases hh : hv dl x with
  | none => rw [hh] at this; cases this
  | some i => rfl
theorem hv_of_mem {dl : Dl} (nd : (dl.map (·.1)).Nodup) {q : Str × Int} (h : q ∈ dl) : hv dl q.1 = some q.2 := by
  induction dl with
  | nil => cases h
  | cons p dl ih =>
    rw [List.map_cons, List.nodup_cons] at nd
    unfold hv
    rw [List.find?_cons]
    rcases List.mem_cons.mp h with rfl | h
    · rw [decide_eq_true rfl]; rfl
    · have ne : decide (p.1 = q.1) = false := decide_eq_false fun z => nd.1 (by rw [z]; exact List.mem_map.mpr ⟨q, h, rfl⟩)
      rw [ne]
      exact ih nd.2 h
theorem all_hands {dl : Dl} (nd : (dl.map (·.1)).Nodup) {l : List Str} (hp : l.Perm (dl.map (·.1))) (f : Int → Bool) : (l.all fun x => f (handOf dl x)) = dl.all fun q => f q.2 := by
  rw [Bool.eq_iff_iff, List.all_eq_true, List.all_eq_true]
  constructor
  · intro h q hq
    have := h q.1 (hp.mem_iff.mpr (List.mem_map.mpr ⟨q, hq, rfl⟩))
    unfold handOf at this
    rw [hv_of_mem nd hq] at this
    exact this
  · intro h x hx
    obtain ⟨q, hq, rfl⟩ := List.mem_map.mp (hp.mem_iff.mp hx)
    unfold handOf
    rw [hv_of_mem nd hq]
    exact h q hq
theorem len_rows (rs : List Rw) : bltD .len (rowsD rs) = some (0, .int (rs.length : Nat)) := by
  show some (0, D.int ((rs.map Rw.d).length : Nat)) = _
  rw [List.length_map]
abbrev Sh (x7 x8 : Option (Nat × D)) : Prop := (x7 = none ∧ x8 = none) ∨ ∃ i t, x7 = some (0, .int i) ∧ x8 = some (1, inL t)
abbrev dueEnv (rs : List Rw) (tk ls : List Str) (M P : Int) (dl : Dl) (x6 x7 x8 : Option (Nat × D)) : PV.Env := [some (0, rowsD rs), some (0, txts tk), some (0, txts ls), some (0, .int M), some (0, .int P), some (0, dD dl), x6, x7, x8, none, none]
abbrev dueB : Sta := (.cons (.set 8 (.lc [9] (.one 9) (.itn (.call "_law_at" (.cons (.var 0) (.cons (.var 1) (.cons (.var 2) (.cons (.var 7) .nil)))) [] .nil)) .yes (.idx (.var 5) (.var 9))))
    (.cons (.ite (.cmp .lt (.blt .lenset (.var 8)) (.blt .len (.var 8))) (.cons (.ret (.bl false)) .nil) .nil) .nil))
section
variable {rs : List Rw} {tk ls : List Str} {M P : Int} {dl : Dl} {nm : List Str}
theorem at_names (h : Right rs tk ls) {pl : Nat} {x : Str} (hx : x ∈ lawAt rs tk ls pl) : x ∈ tk ++ setsL rs := by
  rcases (mem_lawAt h.st).mp hx with ⟨a, _⟩ | ⟨i, r, a, b, _⟩
  · exact List.mem_append_left _ a
  · exact List.mem_append_right _ (mem_setsL.mpr ⟨i, r, a, b⟩)
theorem at_len (h : Right rs tk ls) (pl : Nat) : (lawAt rs tk ls pl).length ≤ 28 := Nat.le_trans (nodup_len (lawAt_nodup h.tn h.st) fun x hx => at_names h hx) h.len
theorem due_turn (k : Nat) (h : Right rs tk ls) (hk : ∀ x ∈ tk ++ setsL rs, x ∈ dl.map (·.1)) {i : Nat} (hi : i ≤ rs.length) {x7 x8 : Option (Nat × D)} (hx : Sh x7 x8) :
    PV.exec (CC (k + 2)) G W dueB (dueEnv rs tk ls M P dl (some (1, txts nm)) (some (0, .int (i : Nat))) x8) = if ((lawAt rs tk ls i).map (handOf dl)).Nodup then some (.nx (dueEnv rs tk ls M P dl (some (1, txts nm)) (some (0, .int (i : Nat))) (some (1, inL ((lawAt rs tk ls i).map (handOf dl)))))) else some (.rt 0 (.bl false)) := by
  have e : ∀ z8 : Option D, ev (CC (k + 2)) G (.lc [9] (.one 9) (.itn (.call "_law_at" (.cons (.var 0) (.cons (.var 1) (.cons (.var 2) (.cons (.var 7) .nil)))) [] .nil)) .yes (.idx (.var 5) (.var 9))) [some (rowsD rs), some (txts tk), some (txts ls), some (.int M), some (.int P), some (dD dl), none, some (.int (i : Nat)), z8, none, none] = some (1, inL ((lawAt rs tk ls i).map (handOf dl))) := fun z8 => by
    have hi : evI (CC (k + 2)) G (.itn (.call "_law_at" (.cons (.var 0) (.cons (.var 1) (.cons (.var 2) (.cons (.var 7) .nil)))) [] .nil)) [some (rowsD rs), some (txts tk), some (txts ls), some (.int M), some (.int P), some (dD dl), none, some (.int (i : Nat)), z8, none, none] = some ((lawAt rs tk ls i).map D.str) := by
      simp only [evI, ev, evs, List.getElem?_cons_zero, List.getElem?_cons_succ, law_at_ok k hi h.rl h.tl h.ll]
      rfl
    refine (ev_lc hi (lc_all D.str (fun x => .int (handOf dl x)) fun x hx => ⟨_, rfl, 0, ?_⟩)).trans ?_
    · simp only [wipeR, List.set, ev, List.getElem?_cons_zero, List.getElem?_cons_succ, idx_hand (hk x (at_names h hx)), Option.map_some]
    · unfold inL
      rw [List.map_map]; rfl
  refine (ex_nx (ex_set (i := 8) (k := 1) (d := inL ((lawAt rs tk ls i).map (handOf dl))) (evS_ns (ρ := dueEnv rs tk ls M P dl (some (1, txts nm)) (some (0, .int (i : Nat))) x8) ?_ (nosh_inL _)))).trans ?_
  · rcases hx with ⟨rfl, rfl⟩ | ⟨j, t, rfl, rfl⟩
    · exact e none
    · exact e none
  · exact uniq_step (j := 8) rfl (by rw [List.length_map]; have := at_len (ls := ls) h i; omega)
theorem due_loop (k : Nat) (h : Right rs tk ls) (hk : ∀ x ∈ tk ++ setsL rs, x ∈ dl.map (·.1)) : ∀ (l : List Nat), (∀ i ∈ l, i ≤ rs.length) → ∀ (x7 x8 : Option (Nat × D)), Sh x7 x8 →
    ((l.all fun i => decide (((lawAt rs tk ls i).map (handOf dl)).Nodup)) = true ∧ ∃ y7 y8, Sh y7 y8 ∧ forL (.one 7) (fun r => PV.exec (CC (k + 2)) G W dueB r) (l.map fun i => D.int ((i : Nat) : Int)) (dueEnv rs tk ls M P dl (some (1, txts nm)) x7 x8) = some (.nx (dueEnv rs tk ls M P dl (some (1, txts nm)) y7 y8)))
    ∨ ((l.all fun i => decide (((lawAt rs tk ls i).map (handOf dl)).Nodup)) = false ∧ forL (.one 7) (fun r => PV.exec (CC (k + 2)) G W dueB r) (l.map fun i => D.int ((i : Nat) : Int)) (dueEnv rs tk ls M P dl (some (1, txts nm)) x7 x8) = some (.rt 0 (.bl false)))
  | [], _, x7, x8, hx => .inl ⟨rfl, x7, x8, hx, rfl⟩
  | i :: l, hl, x7, x8, hx => by
    have ea : asgE (.one 7) (.int ((i : Nat) : Int)) (dueEnv rs tk ls M P dl (some (1, txts nm)) x7 x8) = some (dueEnv rs tk ls M P dl (some (1, txts nm)) (some (0, .int (i : Nat))) x8) := rfl
    have t := due_turn (M := M) (P := P) (nm := nm) k h hk (hl i (List.mem_cons_self ..)) hx
    rw [List.map_cons, List.all_cons]
    unfold forL
    rw [ea]
    dsimp only
    rw [t]
    by_cases nd : ((lawAt rs tk ls i).map (handOf dl)).Nodup
    · rw [if_pos nd, decide_eq_true nd]
      exact due_loop k h hk l (fun j hj => hl j (List.mem_cons_of_mem _ hj)) _ _ (.inr ⟨_, _, rfl, rfl⟩)
    · rw [if_neg nd, decide_eq_false nd]
      exact .inr ⟨rfl, rfl⟩
theorem due_ok (h : Right rs tk ls) (hd : ∀ x ∈ dl.map (·.1), Lay x) (hn : (dl.map (·.1)).Nodup) (hl : dl.length < 64) : CC 5 (.fn "_law_due") [rowsD rs, txts tk, txts ls, .int M, .int P, dD dl] [] [] = some (0, .bl (dueP (tk ++ setsL rs) rs.length (lawAt rs tk ls) M P dl)) := by
  show runD (CC 4) G W d_law_due [rowsD rs, txts tk, txts ls, .int M, .int P, dD dl] = _
  have c1 : PV.exec (CC 4) G W (.set 6 (.blt .sorted (.bin .add (.blt .list (.var 1)) (.lc [10] (.one 10) (.itr (.var 0)) (.cmp .isnot (setE 10) .non) (setE 10))))) (dueEnv rs tk ls M P dl none none none) = some (.nx (dueEnv rs tk ls M P dl (some (1, txts (sortS (tk ++ setsL rs)))) none none)) := by
    refine (ex_set (k := 1) (d := txts (sortS (tk ++ setsL rs))) (evS_ns ?_ (nosh_txts _))).trans rfl
    show ev (CC 4) G _ [some (rowsD rs), some (txts tk), some (txts ls), some (.int M), some (.int P), some (dD dl), none, none, none, none, none] = _
    have e2 := sets_lc 3 (own := [10]) (i := 10) (rs := rs) (it := .itr (.var 0)) (ρ := [some (rowsD rs), some (txts tk), some (txts ls), some (.int M), some (.int P), some (dD dl), none, none, none, none, none]) rfl (fun _ => rfl)
    have e1 : ev (CC 4) G (.blt .list (.var 1)) [some (rowsD rs), some (txts tk), some (txts ls), some (.int M), some (.int P), some (dD dl), none, none, none, none, none] = some (1, txts tk) := rfl
    have hlen := h.len
    have e3 : ev (CC 4) G (.bin .add (.blt .list (.var 1)) (.lc [10] (.one 10) (.itr (.var 0)) (.cmp .isnot (setE 10) .non) (setE 10))) [some (rowsD rs), some (txts tk), some (txts ls), some (.int M), some (.int P), some (dD dl), none, none, none, none, none] = some (1, txts (tk ++ setsL rs)) := by
      rw [ev, e1, e2]
      exact add_txts (by rw [List.length_append] at hlen; show _ ≤ 100000; omega)
    rw [ev, e3]
    exact sorted_txts (by omega)
  have e2 : ev (CC 4) G (.or_ (.cmp .ne (.blt .sorted (.var 5)) (.var 6)) (.nt (.chain .le .le (.int 0) (.var 4) (.blt .len (.var 0))))) [some (rowsD rs), some (txts tk), some (txts ls), some (.int M), some (.int P), some (dD dl), some (txts (sortS (tk ++ setsL rs))), none, none, none, none] = some (0, .bl (!decide (sortS (dl.map (·.1)) = sortS (tk ++ setsL rs)) || !(decide (0 ≤ P) && decide (P ≤ (rs.length : Nat))))) := by
    refine or_of (k := 0) (j := 0) ?_ (nt_of (k := 0) (chain_of (k := 0) (j := 0) (l := 0) (z := .int (rs.length : Nat)) rfl rfl ?_ rfl rfl))
    · have e5 : ev (CC 4) G (.blt .sorted (.var 5)) [some (rowsD rs), some (txts tk), some (txts ls), some (.int M), some (.int P), some (dD dl), some (txts (sortS (tk ++ setsL rs))), none, none, none, none] = some (1, txts (sortS (dl.map (·.1)))) := by
        simp only [ev, List.getElem?_cons_zero, List.getElem?_cons_succ, sorted_dD hl]
      have e6 : ev (CC 4) G (.var 6) [some (rowsD rs), some (txts tk), some (txts ls), some (.int M), some (.int P), some (dD dl), some (txts (sortS (tk ++ setsL rs))), none, none, none, none] = some (0, txts (sortS (tk ++ setsL rs))) := rfl
      rw [ev, e5, e6]
      simp only [cmpD]
      rw [eqd_txts (fun x hx => hd x ((sortS_perm _).mem_iff.mp hx)) (fun x hx => lay_pool (h.names x ((sortS_perm _).mem_iff.mp hx)))]
      rfl
    · simp only [ev, List.getElem?_cons_zero, List.getElem?_cons_succ, len_rows]
  have e2' : evB (CC 4) G (.or_ (.cmp .ne (.blt .sorted (.var 5)) (.var 6)) (.nt (.chain .le .le (.int 0) (.var 4) (.blt .len (.var 0))))) (dueEnv rs tk ls M P dl (some (1, txts (sortS (tk ++ setsL rs)))) none none) = some (!(decide (sortS (dl.map (·.1)) = sortS (tk ++ setsL rs)) && (decide (0 ≤ P) && decide (P ≤ (rs.length : Nat))))) := by
    rw [Bool.not_and]
    exact evB_of (k := 0) e2
  -- a return of false, from anywhere
  have rf : ∀ {ρ : PV.Env}, PV.exec (CC 4) G W (.cons (.ret (.bl false)) .nil) ρ = some (.rt 0 (.bl false)) := ex_rt (ex_ret (k := 0) (d := .bl false) (evS_ns rfl rfl))
  unfold dueP
  cases hA : (decide (sortS (dl.map (·.1)) = sortS (tk ++ setsL rs)) && (decide (0 ≤ P) && decide (P ≤ (rs.length : Nat)))) with
  | false =>
    rw [hA] at e2'
    exact run_rt ((ex_nx c1).trans (ex_rt ((ex_true e2').trans rf)))
  | true =>
    rw [hA] at e2'
    rw [Bool.and_eq_true, Bool.and_eq_true, decide_eq_true_iff, decide_eq_true_iff, decide_eq_true_iff] at hA
    obtain ⟨hs, hP0, hPn⟩ := hA
    have hperm : (sortS (tk ++ setsL rs)).Perm (dl.map (·.1)) := by
      rw [← hs]; exact sortS_perm _
    have hk : ∀ x ∈ tk ++ setsL rs, x ∈ dl.map (·.1) := fun x hx => hperm.mem_iff.mp ((sortS_perm _).mem_iff.mpr hx)
    have c2 := ex_false (a := .cons (.ret (.bl false)) .nil) (b := .nil) (w := W) e2'
    have c2 := c2.trans ex_nil
    have e3 : ev (CC 4) G (.blt .all (.lc [9] (.one 9) (.itr (.var 6)) .yes (.chain .le .lt (.int 0) (.idx (.var 5) (.var 9)) (.var 3)))) [some (rowsD rs), some (txts tk), some (txts ls), some (.int M), some (.int P), some (dD dl), some (txts (sortS (tk ++ setsL rs))), none, none, none, none] = some (0, .bl (dl.all fun q => decide (0 ≤ q.2) && decide (q.2 < M))) := by
      refine (all_lc D.str (fun x => decide (0 ≤ handOf dl x) && decide (handOf dl x < M)) (xs := sortS (tk ++ setsL rs)) rfl fun x hx => ⟨_, rfl, 0, ?_⟩).trans ?_
      · refine chain_of (k := 0) (j := 0) (l := 0) (y := .int (handOf dl x)) rfl ?_ rfl rfl rfl
        simp only [wipeR, List.set, ev, List.getElem?_cons_zero, List.getElem?_cons_succ, idx_hand (hperm.mem_iff.mp hx), Option.map_some]
      · rw [all_hands hn hperm (fun i => decide (0 ≤ i) && decide (i < M))]
    have e3' : evB (CC 4) G (.nt (.blt .all (.lc [9] (.one 9) (.itr (.var 6)) .yes (.chain .le .lt (.int 0) (.idx (.var 5) (.var 9)) (.var 3))))) (dueEnv rs tk ls M P dl (some (1, txts (sortS (tk ++ setsL rs)))) none none) = some (!dl.all fun q => decide (0 ≤ q.2) && decide (q.2 < M)) := evB_of (k := 0) (nt_of e3)
    cases hB : (dl.all fun q => decide (0 ≤ q.2) && decide (q.2 < M)) with
    | false =>
      rw [hB] at e3'
      exact run_rt ((ex_nx c1).trans ((ex_nx c2).trans (ex_rt ((ex_true e3').trans rf))))
    | true =>
      rw [hB] at e3'
      have c3 := (ex_false (a := .cons (.ret (.bl false)) .nil) (b := .nil) (w := W) e3').trans ex_nil
      have hi : evI (CC 4) G (.rng (.bin .add (.blt .len (.var 0)) (.int 1))) [some (rowsD rs), some (txts tk), some (txts ls), some (.int M), some (.int P), some (dD dl), none, none, none, none, none] = some ((List.range (rs.length + 1)).map fun i => D.int ((i : Nat) : Int)) := by
        have hb : ev (CC 4) G (.bin .add (.blt .len (.var 0)) (.int 1)) [some (rowsD rs), some (txts tk), some (txts ls), some (.int M), some (.int P), some (dD dl), none, none, none, none, none] = some (0, .int ((rs.length + 1 : Nat) : Int)) := by
          simp only [ev, List.getElem?_cons_zero, List.getElem?_cons_succ, len_rows]; rfl
        have hc' : ((rs.length + 1 : Nat) : Int) ≤ (cap : Nat) ∧ -(2 ^ 62) ≤ ((rs.length + 1 : Nat) : Int) := ⟨by have := h.rl; show _ ≤ ((100000 : Nat) : Int); omega, by omega⟩
        simp only [evI, hb]
        rw [if_pos hc', rngD_nat]
      have cf := ex_for (C := CC 4) (G := G) (w := W) (tg := .one 7) (it := .rng (.bin .add (.blt .len (.var 0)) (.int 1))) (a := dueB) (ρ := dueEnv rs tk ls M P dl (some (1, txts (sortS (tk ++ setsL rs)))) none none) rfl hi
      rcases due_loop (M := M) (P := P) (nm := sortS (tk ++ setsL rs)) 2 h hk (List.range (rs.length + 1)) (fun i hi => by have := List.mem_range.mp hi; omega) none none (.inl ⟨rfl, rfl⟩) with ⟨hC, y7, y8, hy, hL⟩ | ⟨hC, hL⟩
      · rw [hC]
        have c5 : PV.exec (CC 4) G W (.ret (.cmp .eq (.blt .len (.call "_law_at" (.cons (.var 0) (.cons (.var 1) (.cons (.var 2) (.cons (.var 4) .nil)))) [] .nil)) (.var 3))) (dueEnv rs tk ls M P dl (some (1, txts (sortS (tk ++ setsL rs)))) y7 y8) = some (.rt 0 (.bl (decide (((lawAt rs tk ls P.toNat).length : Int) = M)))) := by
          have e : ∀ z7 z8 : Option D, ev (CC 4) G (.cmp .eq (.blt .len (.call "_law_at" (.cons (.var 0) (.cons (.var 1) (.cons (.var 2) (.cons (.var 4) .nil)))) [] .nil)) (.var 3)) [some (rowsD rs), some (txts tk), some (txts ls), some (.int M), some (.int P), some (dD dl), none, z7, z8, none, none] = some (0, .bl (decide (((lawAt rs tk ls P.toNat).length : Int) = M))) := fun z7 z8 => by
            have hat := law_at_ok 2 (pl := P.toNat) (rs := rs) (tk := tk) (ls := ls) (by omega) h.rl h.tl h.ll
            rw [show ((P.toNat : Nat) : Int) = P by omega] at hat
            simp only [ev, evs, List.getElem?_cons_zero, List.getElem?_cons_succ, hat, len_txts, cmpD, eqd_int, Option.map_some]
          refine ex_ret (k := 0) (evS_ns ?_ rfl)
          rcases hy with ⟨rfl, rfl⟩ | ⟨i, t, rfl, rfl⟩
          · exact e none none
          · exact e (some (.int i)) none
        exact run_rt ((ex_nx c1).trans ((ex_nx c2).trans ((ex_nx c3).trans ((ex_nx (cf.trans hL)).trans (ex_rt c5)))))
      · rw [hC]
        exact run_rt ((ex_nx c1).trans ((ex_nx c2).trans ((ex_nx c3).trans (ex_rt (cf.trans hL)))))
end
end K9

set_option Elab.async false
set_option linter.all false
set_option maxRecDepth 100000
set_option maxHeartbeats 4000000
/-! k09, part Xd: shows, whole. -/
namespace K9
open PySem PySem.Spec PyProof.Rows L2 PV
section
variable {rs : List Rw} {tk ls : List Str} {M P : Int} {dl : Dl} {dt dn : D}
theorem fld_many {C : CT} {ρ : Ro} (h : ρ[0]? = some (some (insF M P dl))) : ev C G (.fld (.var 0) "many") ρ = some (0, .int M) := by
  simp only [ev, h, insF]; with_unfolding_all rfl
theorem fld_place {C : CT} {ρ : Ro} (h : ρ[0]? = some (some (insF M P dl))) : ev C G (.fld (.var 0) "place") ρ = some (0, .int P) := by
  simp only [ev, h, insF]; with_unfolding_all rfl
theorem fld_dealt {C : CT} {ρ : Ro} (h : ρ[0]? = some (some (insF M P dl))) : ev C G (.fld (.var 0) "dealt") ρ = some (0, dD dl) := by
  simp only [ev, h, insF]; with_unfolding_all rfl
abbrev shEnv (rs : List Rw) (dt dn : D) (M P : Int) (dl : Dl) (x4 x5 x6 : Option (Nat × D)) : PV.Env := [some (0, insF M P dl), some (0, rowsD rs), some (0, dt), some (0, dn), x4, x5, x6, none, none]
abbrev shB : Sta := (.cons (.set 6 (.lc [7] (.one 7) (.itn (.call "standing" (.cons (.var 4) (.cons (.var 5) .nil)) [] .nil)) .yes (.idx (.fld (.var 0) "dealt") (.var 7))))
    (.cons (.ite (.cmp .lt (.blt .lenset (.var 6)) (.blt .len (.var 6))) (.cons (.ret (.bl false)) .nil) .nil) .nil))
theorem st_names {S : Sts} {pl : Int} {x : Str} (hx : x ∈ stands S pl) : x ∈ S.map (·.1) := by
  obtain ⟨p, hp, rfl⟩ := List.mem_map.mp hx
  exact List.mem_map.mpr ⟨p, (List.mem_filter.mp hp).1, rfl⟩
theorem sh_turn (k : Nat) {S : Sts} (hS : S.length ≤ 28) (hk : ∀ x ∈ S.map (·.1), x ∈ dl.map (·.1)) {i : Nat} {x5 x6 : Option (Nat × D)} (hx : Sh x5 x6) :
    PV.exec (CC (k + 1)) G W shB (shEnv rs dt dn M P dl (some (2, sts S)) (some (0, .int (i : Nat))) x6) = if ((stands S (i : Nat)).map (handOf dl)).Nodup then some (.nx (shEnv rs dt dn M P dl (some (2, sts S)) (some (0, .int (i : Nat))) (some (1, inL ((stands S (i : Nat)).map (handOf dl)))))) else some (.rt 0 (.bl false)) := by
  have e : ∀ z6 : Option D, ev (CC (k + 1)) G (.lc [7] (.one 7) (.itn (.call "standing" (.cons (.var 4) (.cons (.var 5) .nil)) [] .nil)) .yes (.idx (.fld (.var 0) "dealt") (.var 7))) [some (insF M P dl), some (rowsD rs), some dt, some dn, some (sts S), some (.int (i : Nat)), z6, none, none] = some (1, inL ((stands S (i : Nat)).map (handOf dl))) := fun z6 => by
    have hi : evI (CC (k + 1)) G (.itn (.call "standing" (.cons (.var 4) (.cons (.var 5) .nil)) [] .nil)) [some (insF M P dl), some (rowsD rs), some dt, some dn, some (sts S), some (.int (i : Nat)), z6, none, none] = some ((stands S (i : Nat)).map D.str) := by
      simp only [evI, ev, evs, List.getElem?_cons_zero, List.getElem?_cons_succ, standing_ok k S (i : Nat)]
      rfl
    refine (ev_lc hi (lc_all D.str (fun x => .int (handOf dl x)) fun x hx => ⟨_, rfl, 0, ?_⟩)).trans ?_
    · have hf := fld_dealt (C := CC (k + 1)) (M := M) (P := P) (dl := dl) (ρ := [some (insF M P dl), some (rowsD rs), some dt, some dn, some (sts S), some (.int (i : Nat)), z6, some (.str x), none]) rfl
      show ev (CC (k + 1)) G (.idx (.fld (.var 0) "dealt") (.var 7)) [some (insF M P dl), some (rowsD rs), some dt, some dn, some (sts S), some (.int (i : Nat)), z6, some (.str x), none] = _
      rw [ev, hf]
      have e7 : ev (CC (k + 1)) G (.var 7) [some (insF M P dl), some (rowsD rs), some dt, some dn, some (sts S), some (.int (i : Nat)), z6, some (.str x), none] = some (0, .str x) := rfl
      rw [e7]
      dsimp only
      rw [idx_hand (hk x (st_names hx))]; rfl
    · unfold inL
      rw [List.map_map]; rfl
  refine (ex_nx (ex_set (i := 6) (k := 1) (d := inL ((stands S (i : Nat)).map (handOf dl))) (evS_ns (ρ := shEnv rs dt dn M P dl (some (2, sts S)) (some (0, .int (i : Nat))) x6) ?_ (nosh_inL _)))).trans ?_
  · rcases hx with ⟨rfl, rfl⟩ | ⟨j, t, rfl, rfl⟩
    · exact e none
    · exact e none
  · refine uniq_step (j := 6) rfl ?_
    rw [List.length_map]
    unfold stands
    rw [List.length_map]
    have := List.length_filter_le (fun p : Str × (Int × Int) => decide (p.2.1 ≤ ((i : Nat) : Int)) && decide (((i : Nat) : Int) ≤ p.2.2)) S
    omega
theorem sh_loop (k : Nat) {S : Sts} (hS : S.length ≤ 28) (hk : ∀ x ∈ S.map (·.1), x ∈ dl.map (·.1)) : ∀ (l : List Nat) (x5 x6 : Option (Nat × D)), Sh x5 x6 →
    ((l.all fun i => decide (((stands S (i : Nat)).map (handOf dl)).Nodup)) = true ∧ ∃ y5 y6, Sh y5 y6 ∧ forL (.one 5) (fun r => PV.exec (CC (k + 1)) G W shB r) (l.map fun i => D.int ((i : Nat) : Int)) (shEnv rs dt dn M P dl (some (2, sts S)) x5 x6) = some (.nx (shEnv rs dt dn M P dl (some (2, sts S)) y5 y6)))
    ∨ ((l.all fun i => decide (((stands S (i : Nat)).map (handOf dl)).Nodup)) = false ∧ forL (.one 5) (fun r => PV.exec (CC (k + 1)) G W shB r) (l.map fun i => D.int ((i : Nat) : Int)) (shEnv rs dt dn M P dl (some (2, sts S)) x5 x6) = some (.rt 0 (.bl false)))
  | [], x5, x6, hx => .inl ⟨rfl, x5, x6, hx, rfl⟩
  | i :: l, x5, x6, hx => by
    have ea : asgE (.one 5) (.int ((i : Nat) : Int)) (shEnv rs dt dn M P dl (some (2, sts S)) x5 x6) = some (shEnv rs dt dn M P dl (some (2, sts S)) (some (0, .int (i : Nat))) x6) := rfl
    have t := sh_turn (rs := rs) (dt := dt) (dn := dn) (M := M) (P := P) k hS hk (i := i) hx
    rw [List.map_cons, List.all_cons]
    unfold forL
    rw [ea]
    dsimp only
    rw [t]
    by_cases nd : ((stands S (i : Nat)).map (handOf dl)).Nodup
    · rw [if_pos nd, decide_eq_true nd]
      exact sh_loop k hS hk l _ _ (.inr ⟨_, _, rfl, rfl⟩)
    · rw [if_neg nd, decide_eq_false nd]
      exact .inr ⟨rfl, rfl⟩
theorem shows_run (h : Right rs tk ls) (ht : Nms dt tk) (hls : Nms dn ls) (hd : ∀ x ∈ dl.map (·.1), Lay x) (hl : dl.length < 64) : runD (CC 4) G W d_Fewest_shows [insF M P dl, rowsD rs, dt, dn] = some (0, .bl (dueP (tk ++ setsL rs) rs.length (fun i => stands (stretchS tk rs ls) (i : Nat)) M P dl)) := by
  have hcap : tk.length + rs.length < cap := by
    have := h.tl; have := h.rl
    show _ < 100000
    omega
  have hst := stretches_ok 2 (rs := rs) ht hls h.tn h.st h.li hcap
  have hkS := stretchS_keys rs tk ls
  have hlenS : (stretchS tk rs ls).length ≤ 28 := by
    have e1 := congrArg List.length hkS
    rw [List.length_map] at e1
    rw [e1]; exact h.len
  revert hst hkS hlenS
  generalize hS : stretchS tk rs ls = S
  intro hst hkS hlenS
  have c1 : PV.exec (CC 4) G W (.set 4 (.call "stretches_of" (.cons (.var 1) (.cons (.var 2) (.cons (.var 3) .nil))) [] .nil)) (shEnv rs dt dn M P dl none none none) = some (.nx (shEnv rs dt dn M P dl (some (2, sts S)) none none)) := by
    refine (ex_set (k := 2) (d := sts S) (evS_ns ?_ (nosh_sts S))).trans rfl
    show ev (CC 4) G _ [some (insF M P dl), some (rowsD rs), some dt, some dn, none, none, none, none, none] = _
    simp only [ev, evs, List.getElem?_cons_zero, List.getElem?_cons_succ]
    exact hst
  have e2 : ev (CC 4) G (.or_ (.cmp .ne (.blt .sorted (.var 4)) (.blt .sorted (.fld (.var 0) "dealt"))) (.nt (.chain .le .le (.int 0) (.fld (.var 0) "place") (.blt .len (.var 1))))) [some (insF M P dl), some (rowsD rs), some dt, some dn, some (sts S), none, none, none, none] = some (0, .bl (!decide (sortS (dl.map (·.1)) = sortS (tk ++ setsL rs)) || !(decide (0 ≤ P) && decide (P ≤ (rs.length : Nat))))) := by
    refine or_of (k := 0) (j := 0) ?_ (nt_of (k := 0) (chain_of (k := 0) (j := 0) (l := 0) (y := .int P) (z := .int (rs.length : Nat)) rfl (fld_place rfl) ?_ rfl rfl))
    · have e5 : ev (CC 4) G (.blt .sorted (.fld (.var 0) "dealt")) [some (insF M P dl), some (rowsD rs), some dt, some dn, some (sts S), none, none, none, none] = some (1, txts (sortS (dl.map (·.1)))) := by
        rw [ev, fld_dealt (M := M) (P := P) (dl := dl) rfl]
        exact sorted_dD hl
      have e6 : ev (CC 4) G (.blt .sorted (.var 4)) [some (insF M P dl), some (rowsD rs), some dt, some dn, some (sts S), none, none, none, none] = some (1, txts (sortS (tk ++ setsL rs))) := by
        simp only [ev, List.getElem?_cons_zero, List.getElem?_cons_succ, sorted_sts (show S.length < 64 by omega), hkS]
      rw [ev, e5, e6]
      simp only [cmpD]
      rw [eqd_txts (fun x hx => lay_pool (h.names x ((sortS_perm _).mem_iff.mp hx))) (fun x hx => hd x ((sortS_perm _).mem_iff.mp hx))]
      rw [decide_eq_decide.mpr (eq_comm (a := sortS (tk ++ setsL rs)) (b := sortS (dl.map (·.1))))]
      rfl
    · simp only [ev, List.getElem?_cons_zero, List.getElem?_cons_succ, len_rows]
  have e2' : evB (CC 4) G (.or_ (.cmp .ne (.blt .sorted (.var 4)) (.blt .sorted (.fld (.var 0) "dealt"))) (.nt (.chain .le .le (.int 0) (.fld (.var 0) "place") (.blt .len (.var 1))))) (shEnv rs dt dn M P dl (some (2, sts S)) none none) = some (!(decide (sortS (dl.map (·.1)) = sortS (tk ++ setsL rs)) && (decide (0 ≤ P) && decide (P ≤ (rs.length : Nat))))) := by
    rw [Bool.not_and]
    exact evB_of (k := 0) e2
  have rf : ∀ {ρ : PV.Env}, PV.exec (CC 4) G W (.cons (.ret (.bl false)) .nil) ρ = some (.rt 0 (.bl false)) := ex_rt (ex_ret (k := 0) (d := .bl false) (evS_ns rfl rfl))
  unfold dueP
  cases hA : (decide (sortS (dl.map (·.1)) = sortS (tk ++ setsL rs)) && (decide (0 ≤ P) && decide (P ≤ (rs.length : Nat)))) with
  | false =>
    rw [hA] at e2'
    exact run_rt ((ex_nx c1).trans (ex_rt ((ex_true e2').trans rf)))
  | true =>
    rw [hA] at e2'
    rw [Bool.and_eq_true, Bool.and_eq_true, decide_eq_true_iff, decide_eq_true_iff, decide_eq_true_iff] at hA
    obtain ⟨hs, hP0, hPn⟩ := hA
    have hperm : (sortS (tk ++ setsL rs)).Perm (dl.map (·.1)) := by
      rw [← hs]; exact sortS_perm _
    have hk : ∀ x ∈ S.map (·.1), x ∈ dl.map (·.1) := fun x hx => hperm.mem_iff.mp ((sortS_perm _).mem_iff.mpr (by rw [← hkS]; exact hx))
    have c2 := (ex_false (a := .cons (.ret (.bl false)) .nil) (b := .nil) (w := W) e2').trans ex_nil
    have e3 : ev (CC 4) G (.blt .all (.lc [8] (.one 8) (.vals (.fld (.var 0) "dealt")) .yes (.chain .le .lt (.int 0) (.var 8) (.fld (.var 0) "many")))) [some (insF M P dl), some (rowsD rs), some dt, some dn, none, none, none, none, none] = some (0, .bl (dl.all fun q => decide (0 ≤ q.2) && decide (q.2 < M))) := by
      refine (all_lc (fun q : Str × Int => D.int q.2) (fun q => decide (0 ≤ q.2) && decide (q.2 < M)) (xs := dl) ?_ fun x hx => ⟨_, rfl, 0, ?_⟩)
      · have hf := fld_dealt (C := CC 4) (M := M) (P := P) (dl := dl) (ρ := [some (insF M P dl), some (rowsD rs), some dt, some dn, none, none, none, none, none]) rfl
        simp only [evI, hf, dD]
        rw [List.map_map]; rfl
      · exact chain_of (k := 0) (j := 0) (l := 0) (y := .int x.2) (z := .int M) rfl rfl (fld_many (P := P) (dl := dl) rfl) rfl rfl
    have e3' : evB (CC 4) G (.nt (.blt .all (.lc [8] (.one 8) (.vals (.fld (.var 0) "dealt")) .yes (.chain .le .lt (.int 0) (.var 8) (.fld (.var 0) "many"))))) (shEnv rs dt dn M P dl (some (2, sts S)) none none) = some (!dl.all fun q => decide (0 ≤ q.2) && decide (q.2 < M)) := evB_of (k := 0) (nt_of e3)
    cases hB : (dl.all fun q => decide (0 ≤ q.2) && decide (q.2 < M)) with
    | false =>
      rw [hB] at e3'
      exact run_rt ((ex_nx c1).trans ((ex_nx c2).trans (ex_rt ((ex_true e3').trans rf))))
    | true =>
      rw [hB] at e3'
      have c3 := (ex_false (a := .cons (.ret (.bl false)) .nil) (b := .nil) (w := W) e3').trans ex_nil
      have hi : evI (CC 4) G (.rng (.bin .add (.blt .len (.var 1)) (.int 1))) [some (insF M P dl), some (rowsD rs), some dt, some dn, none, none, none, none, none] = some ((List.range (rs.length + 1)).map fun i => D.int ((i : Nat) : Int)) := by
        have hb : ev (CC 4) G (.bin .add (.blt .len (.var 1)) (.int 1)) [some (insF M P dl), some (rowsD rs), some dt, some dn, none, none, none, none, none] = some (0, .int ((rs.length + 1 : Nat) : Int)) := by
          simp only [ev, List.getElem?_cons_zero, List.getElem?_cons_succ, len_rows]; rfl
        have hc' : ((rs.length + 1 : Nat) : Int) ≤ (cap : Nat) ∧ -(2 ^ 62) ≤ ((rs.length + 1 : Nat) : Int) := ⟨by have := h.rl; show _ ≤ ((100000 : Nat) : Int); omega, by omega⟩
        simp only [evI, hb]
        rw [if_pos hc', rngD_nat]
      have cf := ex_for (C := CC 4) (G := G) (w := W) (tg := .one 5) (it := .rng (.bin .add (.blt .len (.var 1)) (.int 1))) (a := shB) (ρ := shEnv rs dt dn M P dl (some (2, sts S)) none none) rfl hi
      rcases sh_loop (rs := rs) (dt := dt) (dn := dn) (M := M) (P := P) 3 hlenS hk (List.range (rs.length + 1)) none none (.inl ⟨rfl, rfl⟩) with ⟨hC, y5, y6, hy, hL⟩ | ⟨hC, hL⟩
      · rw [hC]
        have c5 : PV.exec (CC 4) G W (.ret (.cmp .eq (.blt .len (.call "standing" (.cons (.var 4) (.cons (.fld (.var 0) "place") .nil)) [] .nil)) (.fld (.var 0) "many"))) (shEnv rs dt dn M P dl (some (2, sts S)) y5 y6) = some (.rt 0 (.bl (decide (((stands S (P.toNat : Nat)).length : Int) = M)))) := by
          have e : ∀ z5 z6 : Option D, ev (CC 4) G (.cmp .eq (.blt .len (.call "standing" (.cons (.var 4) (.cons (.fld (.var 0) "place") .nil)) [] .nil)) (.fld (.var 0) "many")) [some (insF M P dl), some (rowsD rs), some dt, some dn, some (sts S), z5, z6, none, none] = some (0, .bl (decide (((stands S (P.toNat : Nat)).length : Int) = M))) := fun z5 z6 => by
            rw [show ((P.toNat : Nat) : Int) = P by omega]
            have h1 := fld_place (C := CC 4) (M := M) (P := P) (dl := dl) (ρ := [some (insF M P dl), some (rowsD rs), some dt, some dn, some (sts S), z5, z6, none, none]) rfl
            have h2 := fld_many (C := CC 4) (M := M) (P := P) (dl := dl) (ρ := [some (insF M P dl), some (rowsD rs), some dt, some dn, some (sts S), z5, z6, none, none]) rfl
            have h3 : ev (CC 4) G (.blt .len (.call "standing" (.cons (.var 4) (.cons (.fld (.var 0) "place") .nil)) [] .nil)) [some (insF M P dl), some (rowsD rs), some dt, some dn, some (sts S), z5, z6, none, none] = some (0, .int ((stands S P).length : Nat)) := by
              have h4 : evs (CC 4) G (.cons (.var 4) (.cons (.fld (.var 0) "place") .nil)) [some (insF M P dl), some (rowsD rs), some dt, some dn, some (sts S), z5, z6, none, none] = some [sts S, .int P] := by
                have h5 : ev (CC 4) G (.var 4) [some (insF M P dl), some (rowsD rs), some dt, some dn, some (sts S), z5, z6, none, none] = some (0, sts S) := rfl
                simp only [evs, h1, h5]
              rw [ev, ev, h4]
              simp only [evs, standing_ok 3 S P, len_txts]
            rw [ev, h3, h2]
            simp only [cmpD, eqd_int, Option.map_some]
          refine ex_ret (k := 0) (evS_ns ?_ rfl)
          rcases hy with ⟨rfl, rfl⟩ | ⟨i, t, rfl, rfl⟩
          · exact e none none
          · exact e (some (.int i)) none
        exact run_rt ((ex_nx c1).trans ((ex_nx c2).trans ((ex_nx c3).trans ((ex_nx (cf.trans hL)).trans (ex_rt c5)))))
      · rw [hC]
        exact run_rt ((ex_nx c1).trans ((ex_nx c2).trans ((ex_nx c3).trans (ex_rt (cf.trans hL)))))
/-- shows and _law_due say the same -/
theorem shows_ok (h : Right rs tk ls) (ht : Nms dt tk) (hls : Nms dn ls) (hd : ∀ x ∈ dl.map (·.1), Lay x) (hl : dl.length < 64) : CC 5 (.me "Fewest" "shows") [insF M P dl, rowsD rs] ["takes", "last"] [dt, dn] = some (0, .bl (dueP (tk ++ setsL rs) rs.length (lawAt rs tk ls) M P dl)) := by
  rw [← dueP_congr (f := fun i => stands (stretchS tk rs ls) (i : Nat)) (g := lawAt rs tk ls) fun i hi => stands_perm h.tn h.st hi]
  exact shows_run h ht hls hd hl
end
end K9

set_option Elab.async false
set_option linter.all false
set_option maxRecDepth 100000
set_option maxHeartbeats 4000000
/-! k09, part Xe: cells, digits. -/
namespace K9
open PySem PySem.Spec PyProof.Rows L2 PV
theorem lay_map {α : Type} (q : α → D) (h : ∀ x, (toPy (q x)).canLay0 = true ∧ (toPy (q x)).depth ≤ 1) : ∀ xs : List α, PyData.canLayAll0 (toPys (xs.map q)) = true ∧ PyData.depthAll (toPys (xs.map q)) ≤ 1
  | [] => ⟨rfl, Nat.zero_le _⟩
  | x :: xs => by
    obtain ⟨h1, h2⟩ := h x
    obtain ⟨i1, i2⟩ := lay_map q h xs
    show (PyData.canLay0 (toPy (q x)) && PyData.canLayAll0 (toPys (xs.map q))) = true ∧ max (PyData.depth (toPy (q x))) (PyData.depthAll (toPys (xs.map q))) ≤ 1
    rw [h1, i1]
    exact ⟨rfl, by omega⟩
theorem shaped_map {α : Type} (q : α → D) (h : ∀ x, (toPy (q x)).canLay0 = true ∧ (toPy (q x)).depth ≤ 1) (xs : List α) : SeqAt.shaped (toPy (.lst (xs.map q))) = true := by
  obtain ⟨h1, h2⟩ := lay_map q h xs
  show (PyData.canLayAll0 (toPys (xs.map q)) && decide (PyData.depthAll (toPys (xs.map q)) + 1 ≤ 64)) = true
  rw [h1, decide_eq_true (by omega)]; rfl
theorem shaped_in (ms : List Int) : SeqAt.shaped (toPy (inL ms)) = true := shaped_map D.int (fun _ => ⟨rfl, Nat.zero_le 1⟩) ms
theorem eqv_nil (xs : List D) : PyData.eqv (toPy (.lst xs)) (toPy (.lst [])) = xs.isEmpty := by
  cases xs <;> rfl
theorem eqd_nil {xs : List D} (h : SeqAt.shaped (toPy (.lst xs)) = true) : eqD (.lst xs) (.lst []) = some xs.isEmpty := by
  show (if SeqAt.shaped (toPy (.lst xs)) = true ∧ SeqAt.shaped (toPy (.lst [])) = true then some (PyData.eqv (toPy (.lst xs)) (toPy (.lst []))) else none) = _
  rw [if_pos ⟨h, by decide⟩, eqv_nil]
theorem toPys_ints : ∀ ns : List Int, toPys (ns.map D.int) = ns.map PyData.int
  | [] => rfl
  | x :: ns => by
    show PyData.int x :: toPys (ns.map D.int) = _
    rw [toPys_ints ns]; rfl
theorem mul_c (a c : Int) (h : -(2 ^ 64) < c ∧ c < 2 ^ 64) : binD .mul (.int a) (.int c) = some (0, .int (a * c)) := by
  show (if (-(2 ^ 64) < a ∧ a < 2 ^ 64) ∨ (-(2 ^ 64) < c ∧ c < 2 ^ 64) then some (0, D.int (a * c)) else none) = _
  rw [if_pos (.inr h)]
theorem add_c (a b : Int) : binD .add (.int a) (.int b) = some (0, .int (a + b)) := rfl
theorem mod_c (a c : Int) (h : 0 < c) : binD .mod (.int a) (.int c) = some (0, .int (a % c)) := by
  show (if 0 < c then some (0, D.int (a % c)) else none) = _
  rw [if_pos h]
theorem fdiv_c (a c : Int) (h : 0 < c ∧ c < 1073741824) : binD .fdiv (.int a) (.int c) = some (0, .int (a / c)) := by
  show (if 0 < c ∧ c < 1073741824 then some (0, D.int (a / c)) else none) = _
  rw [if_pos h]
theorem cell_ok (k : Nat) (ns : List Int) (j : Nat) : ∃ c : Int, CC (k + 1) (.fn "_law_cell_at") [.rol ns, .int (j : Nat)] [] [] = some (0, .int c) := by
  show ∃ c : Int, runD (CC k) G W d_law_cell_at [.rol ns, .int (j : Nat)] = _
  have hb1 : ev (CC k) G (.cmp .lt (.var 1) (.blt .len (.var 0))) [some (.rol ns), some (.int (j : Nat))] = some (0, .bl (decide ((j : Int) < (ns.length : Nat)))) := rfl
  unfold runD
  by_cases h : j < ns.length
  · have hi : idxD (.rol ns) (.int (j : Nat)) = some (.int ns[j]) := by
      show (atI ns (j : Nat)).map D.int = _
      rw [atI_nat (List.getElem?_eq_getElem h)]; rfl
    refine ⟨ns[j], ?_⟩
    have : PV.exec (CC k) G W d_law_cell_at.body (env0 d_law_cell_at.N [.rol ns, .int (j : Nat)]) = some (.rt 0 (.int ns[j])) := by
      rw [decide_eq_true (show (j : Int) < (ns.length : Nat) by omega)] at hb1
      refine ex_rt ((ex_true (evB_of (k := 0) hb1)).trans (ex_rt (ex_ret (ρ' := _) (evS_ns (k := 0) ?_ rfl))))
      show (idxD (.rol ns) (.int (j : Nat))).map (fun d => (0, d)) = _
      rw [hi]; rfl
    rw [this]
  · rw [decide_eq_false (show ¬ (j : Int) < (ns.length : Nat) by omega)] at hb1
    have hb2 : ev (CC k) G (.cmp .eq (.var 0) (.lst .nil)) [some (.rol ns), some (.int (j : Nat))] = some (0, .bl ns.isEmpty) := by
      show (eqD (.rol ns) (.lst [])).map (fun c => (0, D.bl c)) = _
      have : eqD (.rol ns) (.lst []) = some ns.isEmpty := by
        have sh : SeqAt.shaped (toPy (.rol ns)) = true := by
          have e : toPy (.rol ns) = toPy (inL ns) := by
            show PyData.list (ns.map PyData.int) = PyData.list (toPys (ns.map D.int))
            rw [toPys_ints]
          rw [e]; exact shaped_in ns
        show (if SeqAt.shaped (toPy (.rol ns)) = true ∧ SeqAt.shaped (toPy (.lst [])) = true then some (PyData.eqv (toPy (.rol ns)) (toPy (.lst []))) else none) = _
        rw [if_pos ⟨sh, by decide⟩]
        cases ns <;> rfl
      rw [this]; rfl
    cases hns : ns with
    | nil =>
      subst hns
      refine ⟨(j : Int) * 48271, ?_⟩
      have : PV.exec (CC k) G W d_law_cell_at.body (env0 d_law_cell_at.N [.rol [], .int (j : Nat)]) = some (.rt 0 (.int ((j : Int) * 48271))) := by
        refine (ex_nx ((ex_false (evB_of (k := 0) hb1)).trans rfl)).trans (ex_rt ((ex_true (evB_of (k := 0) hb2)).trans (ex_rt (ex_ret (ρ' := _) (evS_ns (k := 0) ?_ rfl)))))
        show ev (CC k) G (.bin .mul (.var 1) (.int 48271)) [some (.rol []), some (.int (j : Nat))] = _
        simp only [ev, List.getElem?_cons_zero, List.getElem?_cons_succ, mul_c _ 48271 (by decide)]
      rw [this]
    | cons x0 r =>
      rw [← hns]
      have hne : ns.isEmpty = false := by rw [hns]; rfl
      rw [hne] at hb2
      have hpos : 0 < ns.length := by rw [hns]; exact Nat.succ_pos _
      have hm : j % ns.length < ns.length := Nat.mod_lt _ hpos
      have hi : idxD (.rol ns) (.int ((j : Int) % (ns.length : Nat))) = some (.int ns[j % ns.length]) := by
        show (atI ns ((j : Int) % (ns.length : Nat))).map D.int = _
        rw [show (j : Int) % (ns.length : Nat) = ((j % ns.length : Nat) : Int) by omega]
        rw [atI_nat (List.getElem?_eq_getElem hm)]; rfl
      refine ⟨(ns[j % ns.length] + j) * 48271 % 2147483647, ?_⟩
      have : PV.exec (CC k) G W d_law_cell_at.body (env0 d_law_cell_at.N [.rol ns, .int (j : Nat)]) = some (.rt 0 (.int ((ns[j % ns.length] + j) * 48271 % 2147483647))) := by
        refine (ex_nx ((ex_false (evB_of (k := 0) hb1)).trans rfl)).trans ((ex_nx ((ex_false (evB_of (k := 0) hb2)).trans rfl)).trans (ex_rt (ex_ret (ρ' := _) (evS_ns (k := 0) ?_ rfl))))
        show ev (CC k) G (.bin .mod (.bin .mul (.bin .add (.idx (.var 0) (.bin .mod (.var 1) (.blt .len (.var 0)))) (.var 1)) (.int 48271)) (.int 2147483647)) [some (.rol ns), some (.int (j : Nat))] = _
        have e1 : binD .mod (.int (j : Nat)) (.int (ns.length : Nat)) = some (0, .int ((j : Int) % (ns.length : Nat))) := by
          show (if 0 < ((ns.length : Nat) : Int) then some (0, D.int ((j : Int) % (ns.length : Nat))) else none) = _
          rw [if_pos (by omega)]
        have e2 : bltD .len (.rol ns) = some (0, .int (ns.length : Nat)) := rfl
        simp only [ev, List.getElem?_cons_zero, List.getElem?_cons_succ, e2, e1, hi, Option.map_some, add_c, mul_c _ 48271 (by decide), mod_c _ 2147483647 (by decide)]
      rw [this]
/-! ### digits -/
def digs : Int → List Int → List Int
  | _, [] => []
  | r, b :: bs => r % b :: digs (r / b) bs
theorem digs_len : ∀ (r : Int) (bs : List Int), (digs r bs).length = bs.length
  | _, [] => rfl
  | r, b :: bs => by rw [digs, List.length_cons, List.length_cons, digs_len]
theorem numbers_ok (k : Nat) (c : Int) (bs : List Int) (hb : ∀ b ∈ bs, 0 < b ∧ b < 1073741824) (hl : bs.length ≤ 1000) : ∃ r, CC (k + 1) (.fn "_law_numbers") [.int c, inL bs] [] [] = some (1, inL (digs r bs)) := by
  show ∃ r, runD (CC k) G W d_law_numbers [.int c, inL bs] = _
  -- the loop, from any rest
  have loop : ∀ (r : Int), ∃ x2 x4, PV.exec (CC k) G W (.for_ (.one 4) (.itr (.var 1)) (.cons (.app 3 (.bin .mod (.var 2) (.var 4))) (.cons (.set 2 (.bin .fdiv (.var 2) (.var 4))) .nil))) [some (0, .int c), some (0, inL bs), some (0, .int r), some (1, inL []), none] = some (.nx [some (0, .int c), some (0, inL bs), x2, some (1, inL (digs r bs)), x4]) := by
    intro r
    rw [ex_for (ds := bs.map D.int) rfl rfl]
    refine for_rule (tg := .one 4) (f := fun e => PV.exec (CC k) G W (.cons (.app 3 (.bin .mod (.var 2) (.var 4))) (.cons (.set 2 (.bin .fdiv (.var 2) (.var 4))) .nil)) e) (P := fun o => ∃ x2 x4, o = some (.nx [some (0, .int c), some (0, inL bs), x2, some (1, inL (digs r bs)), x4])) (fun ds ρ => ∃ b1 b2 r' f x4, bs = b1 ++ b2 ∧ ds = b2.map D.int ∧ f.length = b1.length ∧ digs r bs = f ++ digs r' b2 ∧ ρ = [some (0, .int c), some (0, inL bs), some (0, .int r'), some (1, inL f), x4]) ?_ ?_ _ _ ⟨[], bs, r, [], none, rfl, rfl, rfl, rfl, rfl⟩
    · rintro ρ ⟨b1, b2, r', f, x4, e1, e2, e3, e4, rfl⟩
      cases b2 with
      | nil => exact ⟨some (0, .int r'), x4, by rw [e4]; simp [digs]⟩
      | cons b b2 => cases e2
    · rintro d ds ρ ⟨b1, b2, r', f, x4, e1, e2, e3, e4, rfl⟩
      cases b2 with
      | nil => cases e2
      | cons b b2 =>
        cases e2
        have hbb := hb b (by rw [e1]; simp)
        have hfl : f.length < cap := by
          have := congrArg List.length e1
          rw [List.length_append] at this
          show _ < 100000
          omega
        refine ⟨[some (0, .int c), some (0, inL bs), some (0, .int r'), some (1, inL f), some (0, .int b)], rfl, .inl ⟨[some (0, .int c), some (0, inL bs), some (0, .int (r' / b)), some (1, inL (f ++ [r' % b])), some (0, .int b)], ?_, b1 ++ [b], b2, r' / b, f ++ [r' % b], _, by rw [e1]; simp, rfl, by rw [List.length_append, List.length_append, e3]; rfl, by rw [e4]; simp [digs], rfl⟩⟩
        have m1 : ev (CC k) G (.bin .mod (.var 2) (.var 4)) [some (.int c), some (inL bs), some (.int r'), none, some (.int b)] = some (0, .int (r' % b)) := by
          simp only [ev, List.getElem?_cons_zero, List.getElem?_cons_succ, mod_c _ _ hbb.1]
        have m2 : ev (CC k) G (.bin .fdiv (.var 2) (.var 4)) [some (.int c), some (inL bs), some (.int r'), none, some (.int b)] = some (0, .int (r' / b)) := by
          simp only [ev, List.getElem?_cons_zero, List.getElem?_cons_succ, fdiv_c _ _ hbb]
        have e : inL (f ++ [r' % b]) = .lst (f.map D.int ++ [.int (r' % b)]) := by simp [inL]
        rw [e]
        refine (ex_nx (ex_app (i := 3) rfl (evS_ns m1 rfl) rfl (by rw [List.length_map]; exact hfl))).trans ?_
        refine (ex_nx (ex_set (i := 2) (evS_ns m2 rfl))).trans ?_
        rfl
  have e10 : ev (CC k) G (.cmp .lt (.var 0) (.bin .pow (.int 10) (.int 18))) [some (.int c), some (inL bs), some (.int c), none, none] = some (0, .bl (decide (c < 10 ^ 18))) := by
    have : binD .pow (.int 10) (.int 18) = some (0, .int (10 ^ 18)) := by
      show (if 0 ≤ (18 : Int) ∧ (18 : Int) ≤ 1000000 ∧ (10 : Int).natAbs < 2 ^ 64 then some (0, D.int ((10 : Int) ^ (18 : Int).toNat)) else none) = _
      rw [if_pos ⟨by decide, by decide, by decide⟩]; rfl
    simp only [ev, List.getElem?_cons_zero, this, cmpD]
    rfl
  unfold runD
  -- by the size of the cell
  have fin : ∀ r, PV.exec (CC k) G W (.ite (.cmp .lt (.var 0) (.bin .pow (.int 10) (.int 18))) (.cons (.set 2 (.bin .fdiv (.bin .pow (.bin .add (.bin .mul (.bin .mod (.var 0) (.int 2147483647)) (.int 48271)) (.int 12345)) (.int 5)) (.int 1013))) .nil) .nil) [some (0, .int c), some (0, inL bs), some (0, .int c), none, none] = some (.nx [some (0, .int c), some (0, inL bs), some (0, .int r), none, none]) → PV.exec (CC k) G W d_law_numbers.body (env0 d_law_numbers.N [.int c, inL bs]) = some (.rt 1 (inL (digs r bs))) := fun r hr => by
    refine (ex_nx (ex_set (i := 2) (k := 0) (d := .int c) (ρ' := [some (0, .int c), some (0, inL bs), none, none, none]) rfl)).trans ?_
    refine (ex_nx hr).trans ?_
    refine (ex_nx (ex_set (i := 3) (k := 1) (d := inL []) (ρ' := [some (0, .int c), some (0, inL bs), some (0, .int r), none, none]) rfl)).trans ?_
    obtain ⟨x2, x4, hl⟩ := loop r
    exact (ex_nx hl).trans rfl
  by_cases h : c < 10 ^ 18
  · rw [decide_eq_true h] at e10
    refine ⟨((c % 2147483647) * 48271 + 12345) ^ 5 / 1013, ?_⟩
    rw [fin _ ?_]
    refine (ex_true (evB_of (k := 0) e10)).trans ((ex_nx (ex_set (i := 2) (k := 0) (d := .int (((c % 2147483647) * 48271 + 12345) ^ 5 / 1013)) (ρ' := [some (0, .int c), some (0, inL bs), some (0, .int c), none, none]) (evS_ns ?_ rfl))).trans rfl)
    show ev (CC k) G _ [some (.int c), some (inL bs), some (.int c), none, none] = _
    have h1 : 0 ≤ c % 2147483647 := Int.emod_nonneg _ (by decide)
    have h2 : c % 2147483647 < 2147483647 := Int.emod_lt_of_pos _ (by decide)
    have hp : binD .pow (.int ((c % 2147483647) * 48271 + 12345)) (.int 5) = some (0, .int (((c % 2147483647) * 48271 + 12345) ^ 5)) := by
      show (if 0 ≤ (5 : Int) ∧ (5 : Int) ≤ 1000000 ∧ ((c % 2147483647) * 48271 + 12345).natAbs < 2 ^ 64 then some (0, D.int (((c % 2147483647) * 48271 + 12345) ^ (5 : Int).toNat)) else none) = _
      rw [if_pos ⟨by decide, by decide, by omega⟩]; rfl
    simp only [ev, List.getElem?_cons_zero, mod_c _ 2147483647 (by decide), mul_c _ 48271 (by decide), add_c, hp, fdiv_c _ 1013 (by decide)]
  · rw [decide_eq_false h] at e10
    refine ⟨c, ?_⟩
    rw [fin c ((ex_false (evB_of (k := 0) e10)).trans rfl)]
theorem digs_bd : ∀ (r : Int) (bs : List Int), (∀ b ∈ bs, 0 < b) → ∀ (i : Nat) (d b : Int), (digs r bs)[i]? = some d → bs[i]? = some b → 0 ≤ d ∧ d < b
  | _, [], _, i, d, b, h, _ => by simp [digs] at h
  | r, c :: bs, hb, 0, d, b, h, e => by
    have h : r % c = d := by simpa [digs] using h
    have e : c = b := by simpa using e
    subst h e
    exact ⟨Int.emod_nonneg _ (by have := hb c (List.mem_cons_self ..); omega), Int.emod_lt_of_pos _ (hb c (List.mem_cons_self ..))⟩
  | r, c :: bs, hb, i + 1, d, b, h, e => digs_bd (r / c) bs (fun x hx => hb x (List.mem_cons_of_mem _ hx)) i d b (by simpa [digs] using h) (by simpa using e)
end K9

set_option Elab.async false
set_option linter.all false
set_option maxRecDepth 100000
set_option maxHeartbeats 4000000
/-! k09, part Xf: one turn of _law_straight. -/
namespace K9
open PySem PySem.Spec PyProof.Rows L2 PV
abbrev stE (ns : List Int) (tk K : List Str) (rs : List Rw) (x5 x6 x9 x10 x11 x12 x13 x14 : Option (Nat × D)) : PV.Env := [some (0, .rol ns), some (1, txts pool), some (1, txts tk), some (1, txts K), some (1, rowsD rs), x5, x6, none, none, x9, x10, x11, x12, x13, x14, none]
abbrev Old (x6 x9 x10 x11 x12 x13 x14 : Option (Nat × D)) : Prop := (x6 = none ∧ x9 = none ∧ x10 = none ∧ x11 = none ∧ x12 = none ∧ x13 = none ∧ x14 = none) ∨ ∃ a b c d e f g, x6 = some (1, a) ∧ x9 = some (0, b) ∧ x10 = some (1, c) ∧ x11 = some (0, d) ∧ x12 = some (1, e) ∧ x13 = some (0, f) ∧ x14 = some (0, g)
theorem and_of {C : CT} {ρ : Ro} {a b : Exp} {k j : Nat} {x y : Bool} (h1 : ev C G a ρ = some (k, .bl x)) (h2 : ev C G b ρ = some (j, .bl y)) : ev C G (.and_ a b) ρ = some (0, .bl (x && y)) := by
  rw [ev, h1]
  cases x
  · rfl
  · dsimp only
    rw [h2]; rfl
theorem in_tup (l : List Str) (x : Str) : inD (.str x) (.tup (l.map D.str)) = some (decide (x ∈ l)) := in_txts l x
theorem pool_nodup : pool.Nodup := by decide +kernel
theorem a_pool : ("a" : Str) ∈ pool := List.mem_cons_self ..
/-- the ten rows -/
def ten (x y z : Str) (i : Int) : List Rw := [.set x i, .copy x y, .plus x y z, .less x y z, .times x y z, .under x y z, .peek x y, .poke y z, .tell y, .plus x z y]
theorem ten_ok {x y z : Str} {i : Int} (hx : x ∈ pool) (hy : y ∈ pool) (hz : z ∈ pool) (hi : 0 ≤ i ∧ i < 21) : ∀ n : Nat, n < 10 → ∃ r, (ten x y z i)[n]? = some r ∧ r.ok ∧ r.sets = (if n = 7 ∨ n = 8 then none else some x) ∧ (∀ w ∈ r.needs, n ≠ 0 ∧ (w = y ∨ w = z))
  | 0, _ => ⟨_, rfl, ⟨hx, hi⟩, rfl, fun w hw => by cases hw⟩
  | 1, _ => ⟨_, rfl, ⟨hx, hy⟩, rfl, fun w hw => by simp [Rw.needs] at hw; subst hw; simp⟩
  | 2, _ => ⟨_, rfl, ⟨hx, hy, hz⟩, rfl, fun w hw => by simp [Rw.needs] at hw; simp [hw]⟩
  | 3, _ => ⟨_, rfl, ⟨hx, hy, hz⟩, rfl, fun w hw => by simp [Rw.needs] at hw; simp [hw]⟩
  | 4, _ => ⟨_, rfl, ⟨hx, hy, hz⟩, rfl, fun w hw => by simp [Rw.needs] at hw; simp [hw]⟩
  | 5, _ => ⟨_, rfl, ⟨hx, hy, hz⟩, rfl, fun w hw => by simp [Rw.needs] at hw; simp [hw]⟩
  | 6, _ => ⟨_, rfl, ⟨hx, hy⟩, rfl, fun w hw => by simp [Rw.needs] at hw; simp [hw]⟩
  | 7, _ => ⟨_, rfl, ⟨hy, hz⟩, rfl, fun w hw => by simp [Rw.needs] at hw; simp [hw]⟩
  | 8, _ => ⟨_, rfl, hy, rfl, fun w hw => by simp [Rw.needs] at hw; simp [hw]⟩
  | 9, _ => ⟨_, rfl, ⟨hx, hz, hy⟩, rfl, fun w hw => by simp [Rw.needs] at hw; simp [hw.symm]⟩
  | n + 10, h => by omega
theorem free_len {K : List Str} : 28 ≤ K.length + (pool.filter fun x => !decide (x ∈ K)).length := by
  have := nodup_len (l := pool) (t := K ++ pool.filter fun x => !decide (x ∈ K)) pool_nodup fun x hx => by
    by_cases h : x ∈ K
    · exact List.mem_append_left _ h
    · exact List.mem_append_right _ (List.mem_filter.mpr ⟨hx, by rw [decide_eq_false h]; rfl⟩)
  rw [List.length_append] at this
  exact this
section
variable {ns : List Int} {tk K : List Str} {rs : List Rw}
/-- a digit's numbers -/
theorem b1 {i : Nat} {x6 x9 x10 x11 x12 x13 x14 : Option (Nat × D)} (ho : Old x6 x9 x10 x11 x12 x13 x14) : ∃ n0 n1 n2 n3 : Nat, n0 < 10 ∧ PV.exec (CC 4) G W (.set 6 (.call "_law_numbers" (.cons (.call "_law_cell_at" (.cons (.var 0) (.cons (.bin .add (.int 3) (.var 5)) .nil)) [] .nil) (.cons (.lst (.cons (.int 10) (.cons (.int 9973) (.cons (.int 9973) (.cons (.int 28) .nil))))) .nil)) [] .nil)) (stE ns tk K rs (some (0, .int (i : Nat))) x6 x9 x10 x11 x12 x13 x14) = some (.nx (stE ns tk K rs (some (0, .int (i : Nat))) (some (1, inL [(n0 : Int), n1, n2, n3])) x9 x10 x11 x12 x13 x14)) := by
  obtain ⟨c, hc⟩ := cell_ok 3 ns (3 + i)
  obtain ⟨r, hr⟩ := numbers_ok 3 c [10, 9973, 9973, 28] (by decide) (by decide)
  have hlen := digs_len r [10, 9973, 9973, 28]
  have hbd := digs_bd r [10, 9973, 9973, 28] (by decide)
  match hd : digs r [10, 9973, 9973, 28], hlen with
  | [d0, d1, d2, d3], _ =>
    rw [hd] at hbd hr
    have h0 := hbd 0 d0 10 rfl rfl
    have h1 := hbd 1 d1 9973 rfl rfl
    have h2 := hbd 2 d2 9973 rfl rfl
    have h3 := hbd 3 d3 28 rfl rfl
    refine ⟨d0.toNat, d1.toNat, d2.toNat, d3.toNat, by omega, ?_⟩
    rw [show ((d0.toNat : Nat) : Int) = d0 by omega, show ((d1.toNat : Nat) : Int) = d1 by omega, show ((d2.toNat : Nat) : Int) = d2 by omega, show ((d3.toNat : Nat) : Int) = d3 by omega]
    have hc' : CC 4 (.fn "_law_cell_at") [.rol ns, .int (3 + (i : Nat))] [] [] = some (0, .int c) := by
      rw [show (3 : Int) + (i : Nat) = ((3 + i : Nat) : Int) by omega]; exact hc
    have e : ∀ z6 z9 z10 z11 z12 z13 z14 : Option D, ev (CC 4) G (.call "_law_numbers" (.cons (.call "_law_cell_at" (.cons (.var 0) (.cons (.bin .add (.int 3) (.var 5)) .nil)) [] .nil) (.cons (.lst (.cons (.int 10) (.cons (.int 9973) (.cons (.int 9973) (.cons (.int 28) .nil))))) .nil)) [] .nil) [some (.rol ns), none, none, none, none, some (.int (i : Nat)), z6, none, none, z9, z10, z11, z12, z13, z14, none] = some (1, inL [d0, d1, d2, d3]) := fun z6 z9 z10 z11 z12 z13 z14 => by
      have el : ∀ ρ : Ro, ev (CC 4) G (.lst (.cons (.int 10) (.cons (.int 9973) (.cons (.int 9973) (.cons (.int 28) .nil))))) ρ = some (1, inL [10, 9973, 9973, 28]) := fun ρ => rfl
      have ec : ev (CC 4) G (.call "_law_cell_at" (.cons (.var 0) (.cons (.bin .add (.int 3) (.var 5)) .nil)) [] .nil) [some (.rol ns), none, none, none, none, some (.int (i : Nat)), z6, none, none, z9, z10, z11, z12, z13, z14, none] = some (0, .int c) := by
        simp only [ev, evs, List.getElem?_cons_zero, List.getElem?_cons_succ, add_c]
        exact hc'
      rw [ev]
      simp only [evs, ec, el]
      exact hr
    refine (ex_set (k := 1) (d := inL [d0, d1, d2, d3]) (evS_ns ?_ (nosh_inL _))).trans rfl
    rcases ho with ⟨rfl, rfl, rfl, rfl, rfl, rfl, rfl⟩ | ⟨a, b, c, d, f, g, h, rfl, rfl, rfl, rfl, rfl, rfl, rfl⟩
    · exact e _ _ _ _ _ _ _
    · exact e _ _ _ _ _ _ _
theorem b2 {i n0 n1 n2 n3 : Nat} {x6 x9 x10 x11 x12 x13 x14 : Option (Nat × D)} (ho : Old x6 x9 x10 x11 x12 x13 x14) (hK : K.length ≤ 25) : ∃ x, x ∈ pool ∧ x ∉ K ∧ PV.exec (CC 4) G W (.set 9 (.idx (.lc [15] (.one 15) (.itr (.var 1)) (.cmp .notin (.var 15) (.var 3)) (.var 15)) (.bin .mod (.idx (.var 6) (.int 3)) (.mx2 (.int 1) (.bin .sub (.blt .len (.var 1)) (.blt .len (.var 3))))))) (stE ns tk K rs (some (0, .int (i : Nat))) (some (1, inL [(n0 : Int), n1, n2, n3])) x9 x10 x11 x12 x13 x14) = some (.nx (stE ns tk K rs (some (0, .int (i : Nat))) (some (1, inL [(n0 : Int), n1, n2, n3])) (some (0, .str x)) x10 x11 x12 x13 x14)) := by
  have hfl := free_len (K := K)
  generalize hF : (pool.filter fun x => !decide (x ∈ K)) = F at hfl
  have hj : n3 % (28 - K.length) < F.length := by
    have := Nat.mod_lt n3 (show 0 < 28 - K.length by omega)
    omega
  obtain ⟨x, hx⟩ : ∃ x, F[n3 % (28 - K.length)]? = some x := ⟨_, List.getElem?_eq_getElem hj⟩
  have hm : x ∈ F := List.mem_of_getElem? hx
  rw [← hF] at hm
  obtain ⟨m1, m2⟩ := List.mem_filter.mp hm
  refine ⟨x, m1, fun z => ?_, ?_⟩
  · rw [decide_eq_true z] at m2; cases m2
  · have e : ∀ z9 z10 z11 z12 z13 z14 : Option D, ev (CC 4) G (.idx (.lc [15] (.one 15) (.itr (.var 1)) (.cmp .notin (.var 15) (.var 3)) (.var 15)) (.bin .mod (.idx (.var 6) (.int 3)) (.mx2 (.int 1) (.bin .sub (.blt .len (.var 1)) (.blt .len (.var 3)))))) [some (.rol ns), some (txts pool), none, some (txts K), none, some (.int (i : Nat)), some (inL [(n0 : Int), n1, n2, n3]), none, none, z9, z10, z11, z12, z13, z14, none] = some (0, .str x) := fun z9 z10 z11 z12 z13 z14 => by
      have l : ev (CC 4) G (.lc [15] (.one 15) (.itr (.var 1)) (.cmp .notin (.var 15) (.var 3)) (.var 15)) [some (.rol ns), some (txts pool), none, some (txts K), none, some (.int (i : Nat)), some (inL [(n0 : Int), n1, n2, n3]), none, none, z9, z10, z11, z12, z13, z14, none] = some (1, txts F) := by
        rw [← hF]
        refine ev_lc (ds := pool.map D.str) rfl (lc_rule D.str (fun x => !decide (x ∈ K)) D.str fun x _ => ⟨_, rfl, ⟨0, ?_⟩, fun _ => ⟨0, rfl⟩⟩)
        simp only [wipeR, List.set, ev, List.getElem?_cons_zero, List.getElem?_cons_succ, cmpD, in_txts, Option.map_some]
      have i3 : idxD (inL [(n0 : Int), n1, n2, n3]) (.int 3) = some (.int (n3 : Int)) := by with_unfolding_all rfl
      have hl : binD .sub (.int (pool.length : Nat)) (.int (K.length : Nat)) = some (0, .int ((28 - K.length : Nat) : Int)) := by
        show some (0, D.int (((28 : Nat) : Int) - (K.length : Nat))) = _
        rw [show ((28 : Nat) : Int) - (K.length : Nat) = ((28 - K.length : Nat) : Int) by omega]
      have hmx : (if ((28 - K.length : Nat) : Int) > 1 then ((28 - K.length : Nat) : Int) else 1) = ((28 - K.length : Nat) : Int) := if_pos (by omega)
      have e2 : ev (CC 4) G (.bin .mod (.idx (.var 6) (.int 3)) (.mx2 (.int 1) (.bin .sub (.blt .len (.var 1)) (.blt .len (.var 3))))) [some (.rol ns), some (txts pool), none, some (txts K), none, some (.int (i : Nat)), some (inL [(n0 : Int), n1, n2, n3]), none, none, z9, z10, z11, z12, z13, z14, none] = some (0, .int ((n3 % (28 - K.length) : Nat) : Int)) := by
        simp only [ev, List.getElem?_cons_zero, List.getElem?_cons_succ, len_txts, i3, hl, hmx, Option.map_some]
        rw [mod_c _ _ (by omega)]
        rfl
      rw [ev, l, e2]
      show (atI (F.map D.str) ((n3 % (28 - K.length) : Nat) : Int)).map _ = _
      rw [atI_nat (v := .str x) (by rw [List.getElem?_map, hx]; rfl)]; rfl
    refine (ex_set (k := 0) (d := .str x) (evS_ns ?_ rfl)).trans rfl
    rcases ho with ⟨rfl, rfl, rfl, rfl, rfl, rfl, rfl⟩ | ⟨a, b, c, d, f, g, h, rfl, rfl, rfl, rfl, rfl, rfl, rfl⟩
    · exact e _ _ _ _ _ _
    · exact e _ _ _ _ _ _
end
end K9

set_option Elab.async false
set_option linter.all false
set_option maxRecDepth 100000
set_option maxHeartbeats 4000000
/-! k09, part Xg: one turn of _law_straight, whole. -/
namespace K9
open PySem PySem.Spec PyProof.Rows L2 PV
section
variable {ns : List Int} {tk K : List Str} {rs : List Rw}
theorem ne_nil_ok (C : CT) {ρ : Ro} {j : Nat} {l : List Str} (h : ρ[j]? = some (some (txts l))) (hp : ∀ x ∈ l, x ∈ pool) : ev C G (.cmp .ne (.var j) (.lst .nil)) ρ = some (0, .bl !decide (l = [])) := by
  have e1 : ev C G (.var j) ρ = some (0, txts l) := by simp only [ev, h]
  have e2 : ev C G (.lst .nil) ρ = some (1, txts []) := rfl
  rw [ev, e1, e2]
  simp only [cmpD]
  rw [eqd_txts (fun x hx => lay_pool (hp x hx)) (fun x hx => by cases hx)]; rfl
def someL (K : List Str) (n0 : Nat) : List Str := if K = [] then [] else (K.reverse ++ [("a" : Str)]).take (3 + n0)
theorem some_mem {n0 : Nat} {y : Str} (h : y ∈ someL K n0) : y ∈ K ∨ y = ("a" : Str) := by
  unfold someL at h
  split at h
  · cases h
  · have := List.mem_of_mem_take h
    rcases List.mem_append.mp this with h | h
    · exact .inl (List.mem_reverse.mp h)
    · exact .inr (List.mem_singleton.mp h)
theorem some_pool (hp : ∀ x ∈ K, x ∈ pool) {n0 : Nat} {y : Str} (h : y ∈ someL K n0) : y ∈ pool := by
  rcases some_mem h with h | rfl
  · exact hp y h
  · exact a_pool
theorem some_len {n0 : Nat} : (someL K n0).length ≤ K.length + 1 := by
  unfold someL
  split
  · exact Nat.zero_le _
  · rw [List.length_take, List.length_append, List.length_reverse, List.length_singleton]
    omega
theorem b3 {i n0 n1 n2 n3 : Nat} {x : Str} {x6 x9 x10 x11 x12 x13 x14 : Option (Nat × D)} (ho : Old x6 x9 x10 x11 x12 x13 x14) (hK : K.length ≤ 25) (hp : ∀ x ∈ K, x ∈ pool) : PV.exec (CC 4) G W (.set 10 (.ife (.cmp .ne (.var 3) (.lst .nil)) (.slc (.bin .add (.rev (.var 3)) (.lst (.cons (.str "a") .nil))) .nil (.itr (.bin .add (.int 3) (.idx (.var 6) (.int 0))))) (.lst .nil))) (stE ns tk K rs (some (0, .int (i : Nat))) (some (1, inL [(n0 : Int), n1, n2, n3])) (some (0, .str x)) x10 x11 x12 x13 x14) = some (.nx (stE ns tk K rs (some (0, .int (i : Nat))) (some (1, inL [(n0 : Int), n1, n2, n3])) (some (0, .str x)) (some (1, txts (someL K n0))) x11 x12 x13 x14)) := by
  have e : ∀ z10 z11 z12 z13 z14 : Option D, ev (CC 4) G (.ife (.cmp .ne (.var 3) (.lst .nil)) (.slc (.bin .add (.rev (.var 3)) (.lst (.cons (.str "a") .nil))) .nil (.itr (.bin .add (.int 3) (.idx (.var 6) (.int 0))))) (.lst .nil)) [some (.rol ns), none, none, some (txts K), none, some (.int (i : Nat)), some (inL [(n0 : Int), n1, n2, n3]), none, none, some (.str x), z10, z11, z12, z13, z14, none] = some (1, txts (someL K n0)) := fun z10 z11 z12 z13 z14 => by
    have e1 := ne_nil_ok (CC 4) (j := 3) (l := K) (ρ := [some (.rol ns), none, none, some (txts K), none, some (.int (i : Nat)), some (inL [(n0 : Int), n1, n2, n3]), none, none, some (.str x), z10, z11, z12, z13, z14, none]) rfl hp
    rw [ev, e1]
    by_cases hk : K = []
    · rw [decide_eq_true hk]
      try dsimp only [Bool.not_true]
      unfold someL
      rw [if_pos hk]; rfl
    · rw [decide_eq_false hk]
      try dsimp only [Bool.not_false]
      unfold someL
      rw [if_neg hk]
      have i0 : idxD (inL [(n0 : Int), n1, n2, n3]) (.int 0) = some (.int (n0 : Int)) := by with_unfolding_all rfl
      have er : ev (CC 4) G (.rev (.var 3)) [some (.rol ns), none, none, some (txts K), none, some (.int (i : Nat)), some (inL [(n0 : Int), n1, n2, n3]), none, none, some (.str x), z10, z11, z12, z13, z14, none] = some (1, txts K.reverse) := by
        show some (1, D.lst (K.map D.str).reverse) = _
        rw [← List.map_reverse]; rfl
      have el : ∀ ρ : Ro, ev (CC 4) G (.lst (.cons (.str "a") .nil)) ρ = some (1, txts [("a" : Str)]) := fun _ => rfl
      have ea : ev (CC 4) G (.bin .add (.rev (.var 3)) (.lst (.cons (.str "a") .nil))) [some (.rol ns), none, none, some (txts K), none, some (.int (i : Nat)), some (inL [(n0 : Int), n1, n2, n3]), none, none, some (.str x), z10, z11, z12, z13, z14, none] = some (1, txts (K.reverse ++ [("a" : Str)])) := by
        rw [ev, er, el]
        exact add_txts (by rw [List.length_reverse]; show K.length + 1 ≤ 100000; omega)
      have eo : evO (CC 4) G (.itr (.bin .add (.int 3) (.idx (.var 6) (.int 0)))) [some (.rol ns), none, none, some (txts K), none, some (.int (i : Nat)), some (inL [(n0 : Int), n1, n2, n3]), none, none, some (.str x), z10, z11, z12, z13, z14, none] = some (some ((3 + n0 : Nat) : Int)) := by
        simp only [evO, ev, List.getElem?_cons_zero, List.getElem?_cons_succ, i0, Option.map_some, add_c]
        rw [show (3 : Int) + (n0 : Nat) = ((3 + n0 : Nat) : Int) by omega]
      rw [ev, ea, eo]
      simp only [evO]
      show some (1, D.lst (cutL ((K.reverse ++ [("a" : Str)]).map D.str) none (some ((3 + n0 : Nat) : Int)))) = _
      rw [cut_take, ← List.map_take]; rfl
  refine (ex_set (k := 1) (d := txts (someL K n0)) (evS_ns ?_ (nosh_txts _))).trans rfl
  rcases ho with ⟨rfl, rfl, rfl, rfl, rfl, rfl, rfl⟩ | ⟨a, b, c, d, f, g, h, rfl, rfl, rfl, rfl, rfl, rfl, rfl⟩
  · exact e _ _ _ _ _
  · exact e _ _ _ _ _
theorem b4 {i n0 n1 n2 n3 : Nat} {x : Str} {L : List Str} {x6 x9 x10 x11 x12 x13 x14 : Option (Nat × D)} (ho : Old x6 x9 x10 x11 x12 x13 x14) (hp : ∀ x ∈ L, x ∈ pool) : PV.exec (CC 4) G W (.set 11 (.ife (.cmp .ne (.var 10) (.lst .nil)) (.idx (.var 6) (.int 0)) (.int 0))) (stE ns tk K rs (some (0, .int (i : Nat))) (some (1, inL [(n0 : Int), n1, n2, n3])) (some (0, .str x)) (some (1, txts L)) x11 x12 x13 x14) = some (.nx (stE ns tk K rs (some (0, .int (i : Nat))) (some (1, inL [(n0 : Int), n1, n2, n3])) (some (0, .str x)) (some (1, txts L)) (some (0, .int ((if L = [] then 0 else n0 : Nat) : Int))) x12 x13 x14)) := by
  have e : ∀ z11 z12 z13 z14 : Option D, ev (CC 4) G (.ife (.cmp .ne (.var 10) (.lst .nil)) (.idx (.var 6) (.int 0)) (.int 0)) [some (.rol ns), none, none, none, none, some (.int (i : Nat)), some (inL [(n0 : Int), n1, n2, n3]), none, none, some (.str x), some (txts L), z11, z12, z13, z14, none] = some (0, .int ((if L = [] then 0 else n0 : Nat) : Int)) := fun z11 z12 z13 z14 => by
    have e1 := ne_nil_ok (CC 4) (j := 10) (l := L) (ρ := [some (.rol ns), none, none, none, none, some (.int (i : Nat)), some (inL [(n0 : Int), n1, n2, n3]), none, none, some (.str x), some (txts L), z11, z12, z13, z14, none]) rfl hp
    have i0 : idxD (inL [(n0 : Int), n1, n2, n3]) (.int 0) = some (.int (n0 : Int)) := by with_unfolding_all rfl
    rw [ev, e1]
    by_cases hk : L = []
    · rw [decide_eq_true hk, if_pos hk]; rfl
    · rw [decide_eq_false hk, if_neg hk]
      simp only [Bool.not_false, ev, List.getElem?_cons_zero, List.getElem?_cons_succ, i0, Option.map_some]
  refine (ex_set (k := 0) (d := .int ((if L = [] then 0 else n0 : Nat) : Int)) (evS_ns ?_ rfl)).trans rfl
  rcases ho with ⟨rfl, rfl, rfl, rfl, rfl, rfl, rfl⟩ | ⟨a, b, c, d, f, g, h, rfl, rfl, rfl, rfl, rfl, rfl, rfl⟩
  · exact e _ _ _ _
  · exact e _ _ _ _
theorem ex_unpl {C : CT} {w : Nat} {is : List Nat} {e : Exp} {ρ ρ' : PV.Env} {k : Nat} {ds : List D} (h : evS C G e ρ = some (k, .lst ds, ρ')) (hl : ds.length = is.length) : PV.exec C G w (.unp is e) ρ = some (Out.nx (asgEs is ds ρ')) := by
  show (match evS C G e ρ with
    | some (_, .tup ds, ρ') => if ds.length = is.length then some (Out.nx (asgEs is ds ρ')) else none
    | some (_, .lst ds, ρ') => if ds.length = is.length then some (Out.nx (asgEs is ds ρ')) else none
    | _ => none) = _
  rw [h]
  dsimp only
  rw [if_pos hl]
theorem b5 {i n0 n1 n2 n3 kd : Nat} {x : Str} {L : List Str} {x6 x9 x10 x11 x12 x13 x14 : Option (Nat × D)} (ho : Old x6 x9 x10 x11 x12 x13 x14) (hp : ∀ x ∈ L, x ∈ pool) : ∃ y z : Str, ((L = [] ∧ y = "a" ∧ z = "a") ∨ (y ∈ L ∧ z ∈ L)) ∧ PV.exec (CC 4) G W (.unp [13, 14] (.ife (.cmp .ne (.var 10) (.lst .nil)) (.lc [8] (.one 8) (.itn (.slc (.var 6) (.itr (.int 1)) (.itr (.int 3)))) .yes (.idx (.var 10) (.bin .mod (.var 8) (.blt .len (.var 10))))) (.lst (.cons (.str "a") (.cons (.str "a") .nil))))) (stE ns tk K rs (some (0, .int (i : Nat))) (some (1, inL [(n0 : Int), n1, n2, n3])) (some (0, .str x)) (some (1, txts L)) (some (0, .int (kd : Nat))) x12 x13 x14) = some (.nx (stE ns tk K rs (some (0, .int (i : Nat))) (some (1, inL [(n0 : Int), n1, n2, n3])) (some (0, .str x)) (some (1, txts L)) (some (0, .int (kd : Nat))) x12 (some (0, .str y)) (some (0, .str z)))) := by
  suffices h : ∃ y z : Str, ((L = [] ∧ y = "a" ∧ z = "a") ∨ (y ∈ L ∧ z ∈ L)) ∧ ∀ z12 z13 z14 : Option D, ev (CC 4) G (.ife (.cmp .ne (.var 10) (.lst .nil)) (.lc [8] (.one 8) (.itn (.slc (.var 6) (.itr (.int 1)) (.itr (.int 3)))) .yes (.idx (.var 10) (.bin .mod (.var 8) (.blt .len (.var 10))))) (.lst (.cons (.str "a") (.cons (.str "a") .nil)))) [some (.rol ns), none, none, none, none, some (.int (i : Nat)), some (inL [(n0 : Int), n1, n2, n3]), none, none, some (.str x), some (txts L), some (.int (kd : Nat)), z12, z13, z14, none] = some (1, .lst [.str y, .str z]) by
    obtain ⟨y, z, hyz, e⟩ := h
    refine ⟨y, z, hyz, ?_⟩
    refine (ex_unpl (k := 1) (ds := [.str y, .str z]) (evS_ns ?_ rfl) rfl).trans rfl
    rcases ho with ⟨rfl, rfl, rfl, rfl, rfl, rfl, rfl⟩ | ⟨a, b, c, d, f, g, h, rfl, rfl, rfl, rfl, rfl, rfl, rfl⟩
    · exact e _ _ _
    · exact e _ _ _
  by_cases hk : L = []
  · refine ⟨"a", "a", .inl ⟨hk, rfl, rfl⟩, fun z12 z13 z14 => ?_⟩
    have e1 := ne_nil_ok (CC 4) (j := 10) (l := L) (ρ := [some (.rol ns), none, none, none, none, some (.int (i : Nat)), some (inL [(n0 : Int), n1, n2, n3]), none, none, some (.str x), some (txts L), some (.int (kd : Nat)), z12, z13, z14, none]) rfl hp
    rw [ev, e1, decide_eq_true hk]; rfl
  · have hpos : 0 < L.length := List.length_pos_iff.mpr hk
    have get : ∀ n : Nat, ∃ y, y ∈ L ∧ L[n % L.length]? = some y := fun n => by
      have hlt := Nat.mod_lt n hpos
      exact ⟨_, List.getElem_mem hlt, List.getElem?_eq_getElem hlt⟩
    obtain ⟨y, y1, y2⟩ := get n1
    obtain ⟨z, z1, z2⟩ := get n2
    refine ⟨y, z, .inr ⟨y1, z1⟩, fun z12 z13 z14 => ?_⟩
    have e1 := ne_nil_ok (CC 4) (j := 10) (l := L) (ρ := [some (.rol ns), none, none, none, none, some (.int (i : Nat)), some (inL [(n0 : Int), n1, n2, n3]), none, none, some (.str x), some (txts L), some (.int (kd : Nat)), z12, z13, z14, none]) rfl hp
    rw [ev, e1, decide_eq_false hk]
    try dsimp only [Bool.not_false]
    have hi : evI (CC 4) G (.itn (.slc (.var 6) (.itr (.int 1)) (.itr (.int 3)))) [some (.rol ns), none, none, none, none, some (.int (i : Nat)), some (inL [(n0 : Int), n1, n2, n3]), none, none, some (.str x), some (txts L), some (.int (kd : Nat)), z12, z13, z14, none] = some ([(n1, y), (n2, z)].map fun p : Nat × Str => D.int ((p.1 : Nat) : Int)) := by with_unfolding_all rfl
    refine ev_lc hi (lc_all (fun p : Nat × Str => D.int ((p.1 : Nat) : Int)) (fun p => D.str p.2) (xs := [(n1, y), (n2, z)]) fun p hp => ⟨_, rfl, 0, ?_⟩)
    have hp2 : L[p.1 % L.length]? = some p.2 := by
      simp only [List.mem_cons, List.not_mem_nil, or_false] at hp
      rcases hp with rfl | rfl
      · exact y2
      · exact z2
    have hm : binD .mod (.int (p.1 : Nat)) (.int (L.length : Nat)) = some (0, .int ((p.1 % L.length : Nat) : Int)) := by
      rw [mod_c _ _ (by omega)]; rfl
    have hix : idxD (txts L) (.int ((p.1 % L.length : Nat) : Int)) = some (.str p.2) := by
      show atI (L.map D.str) _ = _
      exact atI_nat (by rw [List.getElem?_map, hp2]; rfl)
    simp only [wipeR, List.set, ev, List.getElem?_cons_zero, List.getElem?_cons_succ, len_txts, hm, hix, Option.map_some]
theorem b6 {i n0 n1 n2 n3 kd : Nat} {x y z : Str} {L : List Str} {x6 x9 x10 x11 x12 x13 x14 : Option (Nat × D)} (ho : Old x6 x9 x10 x11 x12 x13 x14) : ∃ kd' : Nat, (kd' = kd ∨ kd' = 0) ∧ (kd' ≠ 0 → ("a" : Str) ∈ K ∨ (("a" : Str) ≠ y ∧ ("a" : Str) ≠ z)) ∧ PV.exec (CC 4) G W (.ite (.and_ (.cmp .notin (.str "a") (.var 3)) (.cmp .isin (.str "a") (.tup (.cons (.var 13) (.cons (.var 14) .nil))))) (.cons (.set 11 (.int 0)) .nil) .nil) (stE ns tk K rs (some (0, .int (i : Nat))) (some (1, inL [(n0 : Int), n1, n2, n3])) (some (0, .str x)) (some (1, txts L)) (some (0, .int (kd : Nat))) x12 (some (0, .str y)) (some (0, .str z))) = some (.nx (stE ns tk K rs (some (0, .int (i : Nat))) (some (1, inL [(n0 : Int), n1, n2, n3])) (some (0, .str x)) (some (1, txts L)) (some (0, .int (kd' : Nat))) x12 (some (0, .str y)) (some (0, .str z)))) := by
  have e : ∀ z12 : Option D, ev (CC 4) G (.and_ (.cmp .notin (.str "a") (.var 3)) (.cmp .isin (.str "a") (.tup (.cons (.var 13) (.cons (.var 14) .nil))))) [some (.rol ns), none, none, some (txts K), none, some (.int (i : Nat)), none, none, none, some (.str x), none, some (.int (kd : Nat)), z12, some (.str y), some (.str z), none] = some (0, .bl (!decide (("a" : Str) ∈ K) && decide (("a" : Str) ∈ [y, z]))) := fun z12 => by
    refine and_of (k := 0) (j := 0) ?_ ?_
    · simp only [ev, List.getElem?_cons_zero, List.getElem?_cons_succ, cmpD, in_txts, Option.map_some]
    · have et : ev (CC 4) G (.tup (.cons (.var 13) (.cons (.var 14) .nil))) [some (.rol ns), none, none, some (txts K), none, some (.int (i : Nat)), none, none, none, some (.str x), none, some (.int (kd : Nat)), z12, some (.str y), some (.str z), none] = some (0, .tup ([y, z].map D.str)) := rfl
      have es : ∀ ρ : Ro, ev (CC 4) G (.str "a") ρ = some (0, .str "a") := fun _ => rfl
      rw [ev, et, es]
      simp only [cmpD, in_tup, Option.map_some]
  have e' : evB (CC 4) G (.and_ (.cmp .notin (.str "a") (.var 3)) (.cmp .isin (.str "a") (.tup (.cons (.var 13) (.cons (.var 14) .nil))))) (stE ns tk K rs (some (0, .int (i : Nat))) (some (1, inL [(n0 : Int), n1, n2, n3])) (some (0, .str x)) (some (1, txts L)) (some (0, .int (kd : Nat))) x12 (some (0, .str y)) (some (0, .str z))) = some (!decide (("a" : Str) ∈ K) && decide (("a" : Str) ∈ [y, z])) := by
    refine evB_of (k := 0) ?_
    rcases ho with ⟨rfl, rfl, rfl, rfl, rfl, rfl, rfl⟩ | ⟨a, b, c, d, f, g, h, rfl, rfl, rfl, rfl, rfl, rfl, rfl⟩
    · exact e _
    · exact e _
  cases hb : (!decide (("a" : Str) ∈ K) && decide (("a" : Str) ∈ [y, z])) with
  | true =>
    rw [hb] at e'
    refine ⟨0, .inr rfl, fun h => absurd rfl h, ?_⟩
    refine (ex_true e').trans ((ex_nx (ex_set (k := 0) (d := .int 0) (i := 11) (evS_ns rfl rfl))).trans rfl)
  | false =>
    rw [hb] at e'
    refine ⟨kd, .inl rfl, fun _ => ?_, (ex_false e').trans ex_nil⟩
    by_cases ha : ("a" : Str) ∈ K
    · exact .inl ha
    · rw [decide_eq_false ha] at hb
      have hb : decide (("a" : Str) ∈ [y, z]) = false := hb
      have hb := of_decide_eq_false hb
      exact .inr ⟨fun z => hb (by rw [z]; simp), fun z => hb (by rw [z]; simp)⟩
end
end K9

set_option Elab.async false
set_option linter.all false
set_option maxRecDepth 100000
set_option maxHeartbeats 4000000
/-! k09, part Xh: rows of _law_straight. -/
namespace K9
open PySem PySem.Spec PyProof.Rows L2 PV
section
variable {ns : List Int} {tk K : List Str} {rs : List Rw}
abbrev w7 : Sta := .set 12 (.lst (.cons (.tup (.cons (.str "set") (.cons (.var 9) (.cons (.var 5) .nil)))) (.cons (.tup (.cons (.str "copy") (.cons (.var 9) (.cons (.var 13) .nil)))) (.cons (.tup (.cons (.str "plus") (.cons (.var 9) (.cons (.var 13) (.cons (.var 14) .nil))))) (.cons (.tup (.cons (.str "less") (.cons (.var 9) (.cons (.var 13) (.cons (.var 14) .nil))))) (.cons (.tup (.cons (.str "times") (.cons (.var 9) (.cons (.var 13) (.cons (.var 14) .nil))))) .nil))))))
abbrev w8 : Sta := .set 12 (.bin .add (.var 12) (.lst (.cons (.tup (.cons (.str "under") (.cons (.var 9) (.cons (.var 13) (.cons (.var 14) .nil))))) (.cons (.tup (.cons (.str "peek") (.cons (.var 9) (.cons (.var 13) .nil)))) (.cons (.tup (.cons (.str "poke") (.cons (.var 13) (.cons (.var 14) .nil)))) (.cons (.tup (.cons (.str "tell") (.cons (.var 13) .nil))) (.cons (.tup (.cons (.str "plus") (.cons (.var 9) (.cons (.var 14) (.cons (.var 13) .nil))))) .nil)))))))
theorem b7 {i n0 n1 n2 n3 kd : Nat} {x y z : Str} {L : List Str} {x6 x9 x10 x11 x12 x13 x14 : Option (Nat × D)} (ho : Old x6 x9 x10 x11 x12 x13 x14) : PV.exec (CC 4) G W w7 (stE ns tk K rs (some (0, .int (i : Nat))) (some (1, inL [(n0 : Int), n1, n2, n3])) (some (0, .str x)) (some (1, txts L)) (some (0, .int (kd : Nat))) x12 (some (0, .str y)) (some (0, .str z))) = some (.nx (stE ns tk K rs (some (0, .int (i : Nat))) (some (1, inL [(n0 : Int), n1, n2, n3])) (some (0, .str x)) (some (1, txts L)) (some (0, .int (kd : Nat))) (some (1, .lst (((ten x y z (i : Nat)).take 5).map Rw.d))) (some (0, .str y)) (some (0, .str z)))) := by
  refine (ex_set (k := 1) (d := .lst (((ten x y z (i : Nat)).take 5).map Rw.d)) (evS_ns ?_ rfl)).trans rfl
  rcases ho with ⟨rfl, rfl, rfl, rfl, rfl, rfl, rfl⟩ | ⟨a, b, c, d, f, g, h, rfl, rfl, rfl, rfl, rfl, rfl, rfl⟩ <;> rfl
theorem b8 {i n0 n1 n2 n3 kd : Nat} {x y z : Str} {L : List Str} : PV.exec (CC 4) G W w8 (stE ns tk K rs (some (0, .int (i : Nat))) (some (1, inL [(n0 : Int), n1, n2, n3])) (some (0, .str x)) (some (1, txts L)) (some (0, .int (kd : Nat))) (some (1, .lst (((ten x y z (i : Nat)).take 5).map Rw.d))) (some (0, .str y)) (some (0, .str z))) = some (.nx (stE ns tk K rs (some (0, .int (i : Nat))) (some (1, inL [(n0 : Int), n1, n2, n3])) (some (0, .str x)) (some (1, txts L)) (some (0, .int (kd : Nat))) (some (1, .lst ((ten x y z (i : Nat)).map Rw.d))) (some (0, .str y)) (some (0, .str z)))) :=
  (ex_set (k := 1) (d := .lst ((ten x y z (i : Nat)).map Rw.d)) (evS_ns rfl rfl)).trans rfl
theorem b9 {i n0 n1 n2 n3 kd : Nat} {x y z : Str} {L : List Str} {r : Rw} (hr : (ten x y z (i : Nat))[kd]? = some r) (hl : rs.length < cap) : PV.exec (CC 4) G W (.app 4 (.idx (.var 12) (.var 11))) (stE ns tk K rs (some (0, .int (i : Nat))) (some (1, inL [(n0 : Int), n1, n2, n3])) (some (0, .str x)) (some (1, txts L)) (some (0, .int (kd : Nat))) (some (1, .lst ((ten x y z (i : Nat)).map Rw.d))) (some (0, .str y)) (some (0, .str z))) = some (.nx (stE ns tk K (rs ++ [r]) (some (0, .int (i : Nat))) (some (1, inL [(n0 : Int), n1, n2, n3])) (some (0, .str x)) (some (1, txts L)) (some (0, .int (kd : Nat))) (some (1, .lst ((ten x y z (i : Nat)).map Rw.d))) (some (0, .str y)) (some (0, .str z)))) := by
  have hix : idxD (.lst ((ten x y z (i : Nat)).map Rw.d)) (.int (kd : Nat)) = some r.d := by
    show atI ((ten x y z (i : Nat)).map Rw.d) _ = _
    exact atI_nat (by rw [List.getElem?_map, hr]; rfl)
  have him : nosh 0 r.d = true := by cases r <;> rfl
  have : rowsD (rs ++ [r]) = .lst (rs.map Rw.d ++ [r.d]) := by unfold rowsD; rw [List.map_append]; rfl
  unfold stE
  rw [this]
  refine (ex_app (i := 4) (xs0 := rs.map Rw.d) (xs := rs.map Rw.d) (k := 0) (d := r.d) rfl (evS_ns ?_ him) rfl (by rw [List.length_map]; exact hl)).trans rfl
  show (idxD (.lst ((ten x y z (i : Nat)).map Rw.d)) (.int (kd : Nat))).map (fun d => (0, d)) = _
  rw [hix]; rfl
theorem b10 {i n0 n1 n2 n3 kd : Nat} {x : Str} {L : List Str} {w : List D} {y z : Str} (hk : kd < 10) (hl : K.length < cap) : PV.exec (CC 4) G W (.ite (.cmp .notin (.var 11) (.tup (.cons (.int 7) (.cons (.int 8) .nil)))) (.cons (.app 3 (.var 9)) .nil) .nil) (stE ns tk K rs (some (0, .int (i : Nat))) (some (1, inL [(n0 : Int), n1, n2, n3])) (some (0, .str x)) (some (1, txts L)) (some (0, .int (kd : Nat))) (some (1, .lst w)) (some (0, .str y)) (some (0, .str z))) = some (.nx (stE ns tk (K ++ (if kd = 7 ∨ kd = 8 then none else some x : Option Str).toList) rs (some (0, .int (i : Nat))) (some (1, inL [(n0 : Int), n1, n2, n3])) (some (0, .str x)) (some (1, txts L)) (some (0, .int (kd : Nat))) (some (1, .lst w)) (some (0, .str y)) (some (0, .str z)))) := by
  have e : evB (CC 4) G (.cmp .notin (.var 11) (.tup (.cons (.int 7) (.cons (.int 8) .nil)))) (stE ns tk K rs (some (0, .int (i : Nat))) (some (1, inL [(n0 : Int), n1, n2, n3])) (some (0, .str x)) (some (1, txts L)) (some (0, .int (kd : Nat))) (some (1, .lst w)) (some (0, .str y)) (some (0, .str z))) = some (!decide (kd = 7 ∨ kd = 8)) := by
    refine evB_of (k := 0) ?_
    have hin : inD (.int (kd : Nat)) (.tup [.int 7, .int 8]) = some (decide (kd = 7 ∨ kd = 8)) := by
      have := in_inL [7, 8] (kd : Nat)
      refine Eq.trans (show inD (.int (kd : Nat)) (.tup [.int 7, .int 8]) = inD (.int (kd : Nat)) (inL [7, 8]) from rfl) (this.trans ?_)
      congr 1
      rw [decide_eq_decide]
      simp only [List.mem_cons, List.not_mem_nil, or_false]
      omega
    show (cmpD .notin (.int (kd : Nat)) (.tup [.int 7, .int 8])).map (fun c => (0, D.bl c)) = _
    simp only [cmpD, hin, Option.map_some]
  by_cases h : kd = 7 ∨ kd = 8
  · rw [decide_eq_true h] at e
    rw [if_pos h]
    have : K ++ (none : Option Str).toList = K := List.append_nil K
    rw [this]
    exact (ex_false e).trans ex_nil
  · rw [decide_eq_false h] at e
    rw [if_neg h]
    have : txts (K ++ (some x).toList) = .lst (K.map D.str ++ [.str x]) := by unfold txts; rw [List.map_append]; rfl
    unfold stE at e ⊢
    rw [this]
    exact (ex_true e).trans ((ex_nx (ex_app (i := 3) (xs0 := K.map D.str) (xs := K.map D.str) (k := 0) (d := .str x) rfl (evS_ns rfl rfl) rfl (by rw [List.length_map]; exact hl))).trans rfl)
abbrev rowT : Sta := (.cons (.set 6 (.call "_law_numbers" (.cons (.call "_law_cell_at" (.cons (.var 0) (.cons (.bin .add (.int 3) (.var 5)) .nil)) [] .nil) (.cons (.lst (.cons (.int 10) (.cons (.int 9973) (.cons (.int 9973) (.cons (.int 28) .nil))))) .nil)) [] .nil))
    (.cons (.set 9 (.idx (.lc [15] (.one 15) (.itr (.var 1)) (.cmp .notin (.var 15) (.var 3)) (.var 15)) (.bin .mod (.idx (.var 6) (.int 3)) (.mx2 (.int 1) (.bin .sub (.blt .len (.var 1)) (.blt .len (.var 3)))))))
    (.cons (.set 10 (.ife (.cmp .ne (.var 3) (.lst .nil)) (.slc (.bin .add (.rev (.var 3)) (.lst (.cons (.str "a") .nil))) .nil (.itr (.bin .add (.int 3) (.idx (.var 6) (.int 0))))) (.lst .nil)))
    (.cons (.set 11 (.ife (.cmp .ne (.var 10) (.lst .nil)) (.idx (.var 6) (.int 0)) (.int 0)))
    (.cons (.unp [13, 14] (.ife (.cmp .ne (.var 10) (.lst .nil)) (.lc [8] (.one 8) (.itn (.slc (.var 6) (.itr (.int 1)) (.itr (.int 3)))) .yes (.idx (.var 10) (.bin .mod (.var 8) (.blt .len (.var 10))))) (.lst (.cons (.str "a") (.cons (.str "a") .nil)))))
    (.cons (.ite (.and_ (.cmp .notin (.str "a") (.var 3)) (.cmp .isin (.str "a") (.tup (.cons (.var 13) (.cons (.var 14) .nil))))) (.cons (.set 11 (.int 0)) .nil) .nil)
    (.cons w7 (.cons w8 (.cons (.app 4 (.idx (.var 12) (.var 11)))
    (.cons (.ite (.cmp .notin (.var 11) (.tup (.cons (.int 7) (.cons (.int 8) .nil)))) (.cons (.app 3 (.var 9)) .nil) .nil)
    .nil))))))))))
theorem row_turn {i : Nat} (hi : i < 21) {x6 x9 x10 x11 x12 x13 x14 : Option (Nat × D)} (ho : Old x6 x9 x10 x11 x12 x13 x14) (hK : K.length ≤ 25) (hp : ∀ x ∈ K, x ∈ pool) (hr : rs.length ≤ 20) :
    ∃ (r : Rw) (a b c d e f g : D), r.ok ∧ (∀ w ∈ r.needs, w ∈ K) ∧ (∀ x, r.sets = some x → x ∉ K) ∧ PV.exec (CC 4) G W rowT (stE ns tk K rs (some (0, .int (i : Nat))) x6 x9 x10 x11 x12 x13 x14) = some (.nx (stE ns tk (K ++ r.sets.toList) (rs ++ [r]) (some (0, .int (i : Nat))) (some (1, a)) (some (0, b)) (some (1, c)) (some (0, d)) (some (1, e)) (some (0, f)) (some (0, g)))) := by
  have hcap : (cap : Nat) = 100000 := rfl
  obtain ⟨n0, n1, n2, n3, h0, t1⟩ := b1 (ns := ns) (tk := tk) (K := K) (rs := rs) (i := i) ho
  obtain ⟨x, hx1, hx2, t2⟩ := b2 (ns := ns) (tk := tk) (K := K) (rs := rs) (i := i) (n0 := n0) (n1 := n1) (n2 := n2) (n3 := n3) ho hK
  have t3 := b3 (ns := ns) (tk := tk) (K := K) (rs := rs) (i := i) (n0 := n0) (n1 := n1) (n2 := n2) (n3 := n3) (x := x) ho hK hp
  have t4 := b4 (ns := ns) (tk := tk) (K := K) (rs := rs) (i := i) (n0 := n0) (n1 := n1) (n2 := n2) (n3 := n3) (x := x) (L := someL K n0) ho (fun y hy => some_pool hp hy)
  obtain ⟨y, z, hyz, t5⟩ := b5 (ns := ns) (tk := tk) (K := K) (rs := rs) (i := i) (n0 := n0) (n1 := n1) (n2 := n2) (n3 := n3) (kd := if someL K n0 = [] then 0 else n0) (x := x) (L := someL K n0) ho (fun y hy => some_pool hp hy)
  obtain ⟨kd, k1, k2, t6⟩ := b6 (ns := ns) (tk := tk) (K := K) (rs := rs) (i := i) (n0 := n0) (n1 := n1) (n2 := n2) (n3 := n3) (kd := if someL K n0 = [] then 0 else n0) (x := x) (y := y) (z := z) (L := someL K n0) ho
  have hy : y ∈ pool ∧ z ∈ pool := by
    rcases hyz with ⟨_, rfl, rfl⟩ | ⟨a, b⟩
    · exact ⟨a_pool, a_pool⟩
    · exact ⟨some_pool hp a, some_pool hp b⟩
  have hkd : kd < 10 := by
    rcases k1 with rfl | rfl
    · split <;> omega
    · omega
  obtain ⟨r, r1, r2, r3, r4⟩ := ten_ok hx1 hy.1 hy.2 (i := (i : Nat)) ⟨by omega, by omega⟩ kd hkd
  have t7 := b7 (ns := ns) (tk := tk) (K := K) (rs := rs) (i := i) (n0 := n0) (n1 := n1) (n2 := n2) (n3 := n3) (kd := kd) (x := x) (y := y) (z := z) (L := someL K n0) ho
  have t8 := b8 (ns := ns) (tk := tk) (K := K) (rs := rs) (i := i) (n0 := n0) (n1 := n1) (n2 := n2) (n3 := n3) (kd := kd) (x := x) (y := y) (z := z) (L := someL K n0)
  have t9 := b9 (ns := ns) (tk := tk) (K := K) (rs := rs) (i := i) (n0 := n0) (n1 := n1) (n2 := n2) (n3 := n3) (kd := kd) (x := x) (y := y) (z := z) (L := someL K n0) r1 (by omega)
  have t10 := b10 (ns := ns) (tk := tk) (K := K) (rs := rs ++ [r]) (i := i) (n0 := n0) (n1 := n1) (n2 := n2) (n3 := n3) (kd := kd) (x := x) (y := y) (z := z) (L := someL K n0) (w := (ten x y z (i : Nat)).map Rw.d) hkd (by omega)
  rw [← r3] at t10
  refine ⟨r, _, _, _, _, _, _, _, r2, fun w hw => ?_, fun u hu => ?_, (ex_nx t1).trans ((ex_nx t2).trans ((ex_nx t3).trans ((ex_nx t4).trans ((ex_nx t5).trans ((ex_nx t6).trans ((ex_nx t7).trans ((ex_nx t8).trans ((ex_nx t9).trans ((ex_nx t10).trans ex_nil)))))))))⟩
  · obtain ⟨hk0, hw⟩ := r4 w hw
    have hne : ¬ someL K n0 = [] := fun z => by
      rcases k1 with rfl | rfl
      · rw [if_pos z] at hk0; exact hk0 rfl
      · exact hk0 rfl
    rcases hyz with ⟨z, _⟩ | ⟨a, b⟩
    · exact absurd z hne
    · have ka := k2 hk0
      have fin : ∀ v, v ∈ someL K n0 → (("a" : Str) ∈ K ∨ ("a" : Str) ≠ v) → v ∈ K := fun v hv ha => by
        rcases some_mem hv with h | rfl
        · exact h
        · rcases ha with h | h
          · exact h
          · exact absurd rfl h
      rcases hw with rfl | rfl
      · exact fin _ a (ka.imp id And.left)
      · exact fin _ b (ka.imp id And.right)
  · rw [r3] at hu
    split at hu
    · cases hu
    · cases hu; exact hx2
theorem strt_snoc : ∀ {rs : List Rw} {K : List Str} {r : Rw}, strt K rs → (∀ w ∈ r.needs, w ∈ K ++ setsL rs) → (∀ x, r.sets = some x → x ∉ K ++ setsL rs) → strt K (rs ++ [r])
  | [], K, r, _, h1, h2 => by
    have e : K ++ setsL [] = K := List.append_nil K
    rw [e] at h1 h2
    exact ⟨h1, h2, trivial⟩
  | q :: rs, K, r, h, h1, h2 => by
    have e : K ++ setsL (q :: rs) = (K ++ q.sets.toList) ++ setsL rs := by
      rw [List.append_assoc]; rfl
    rw [e] at h1 h2
    exact ⟨h.1, h.2.1, strt_snoc h.2.2 h1 h2⟩
theorem setsL_snoc (rs : List Rw) (r : Rw) : setsL (rs ++ [r]) = setsL rs ++ r.sets.toList := by
  unfold setsL
  rw [List.map_append, List.flatten_append]; simp
/-- the rows' loop -/
theorem row_loop (htp : ∀ x ∈ tk, x ∈ pool) (htn : tk.Nodup) (htl : tk.length ≤ 5) : ∀ (l : List Nat) (rs : List Rw) (x5 x6 x9 x10 x11 x12 x13 x14 : Option (Nat × D)), (∀ i ∈ l, i < 21) → Old x6 x9 x10 x11 x12 x13 x14 → (x5 = none ∨ ∃ d, x5 = some (0, d)) → rs.length + l.length ≤ 20 → strt tk rs → (∀ r ∈ rs, r.ok) →
    ∃ (qs : List Rw) (y5 y6 y9 y10 y11 y12 y13 y14 : Option (Nat × D)), Old y6 y9 y10 y11 y12 y13 y14 ∧ (y5 = none ∨ ∃ d, y5 = some (0, d)) ∧ strt tk qs ∧ (∀ r ∈ qs, r.ok) ∧ qs.length ≤ 20 ∧
      forL (.one 5) (fun r => PV.exec (CC 4) G W rowT r) (l.map fun i => D.int ((i : Nat) : Int)) (stE ns tk (tk ++ setsL rs) rs x5 x6 x9 x10 x11 x12 x13 x14) = some (.nx (stE ns tk (tk ++ setsL qs) qs y5 y6 y9 y10 y11 y12 y13 y14))
  | [], rs, x5, x6, x9, x10, x11, x12, x13, x14, _, ho, h5, hl, hs, hk => ⟨rs, x5, x6, x9, x10, x11, x12, x13, x14, ho, h5, hs, hk, by simpa using hl, rfl⟩
  | i :: l, rs, x5, x6, x9, x10, x11, x12, x13, x14, hi, ho, h5, hl, hs, hk => by
    rw [List.length_cons] at hl
    have hsl := setsL_len rs
    have hnames : ∀ x ∈ tk ++ setsL rs, x ∈ pool := fun x hx => by
      rcases List.mem_append.mp hx with hx | hx
      · exact htp x hx
      · obtain ⟨j, r, a, b⟩ := mem_setsL.mp hx
        exact ok_sets (hk r (List.mem_of_getElem? a)) b
    obtain ⟨r, a, b, c, d, e, f, g, r1, r2, r3, t⟩ := row_turn (ns := ns) (tk := tk) (K := tk ++ setsL rs) (rs := rs) (hi i (List.mem_cons_self ..)) ho (by rw [List.length_append]; omega) hnames (by omega)
    obtain ⟨qs, y5, y6, y9, y10, y11, y12, y13, y14, o1, o5, o2, o3, o4, o6⟩ := row_loop htp htn htl l (rs ++ [r]) (some (0, .int (i : Nat))) (some (1, a)) (some (0, b)) (some (1, c)) (some (0, d)) (some (1, e)) (some (0, f)) (some (0, g)) (fun j hj => hi j (List.mem_cons_of_mem _ hj)) (.inr ⟨a, b, c, d, e, f, g, rfl, rfl, rfl, rfl, rfl, rfl, rfl⟩) (.inr ⟨_, rfl⟩) (by rw [List.length_append, List.length_singleton]; omega) (strt_snoc hs r2 r3) (fun q hq => by
      rcases List.mem_append.mp hq with hq | hq
      · exact hk q hq
      · have := List.mem_singleton.mp hq
        subst this; exact r1)
    refine ⟨qs, y5, y6, y9, y10, y11, y12, y13, y14, o1, o5, o2, o3, o4, ?_⟩
    have ea : asgE (.one 5) (.int ((i : Nat) : Int)) (stE ns tk (tk ++ setsL rs) rs x5 x6 x9 x10 x11 x12 x13 x14) = some (stE ns tk (tk ++ setsL rs) rs (some (0, .int (i : Nat))) x6 x9 x10 x11 x12 x13 x14) := rfl
    rw [setsL_snoc, ← List.append_assoc] at o6
    rw [List.map_cons]
    unfold forL
    rw [ea]
    dsimp only
    rw [t]
    exact o6
end
end K9

set_option Elab.async false
set_option linter.all false
set_option maxRecDepth 100000
set_option maxHeartbeats 4000000
/-! k09, part Xi: _law_straight, whole. -/
namespace K9
open PySem PySem.Spec PyProof.Rows L2 PV
theorem pool_ev (ns : List Int) : ev (CC 4) G (.bin .add (.lst (.cons (.str "a") (.cons (.str "plus") (.cons (.str "ask") (.cons (.str "go") (.cons (.str "b") (.cons (.str "set") (.cons (.str "give") (.cons (.str "c") .nil))))))))) (.lc [5] (.one 5) (.rng (.int 20)) .yes (.bin .add (.str "n") (.idx (.str "abcdefghijklmnopqrst") (.var 5))))) [some (.rol ns), none, none, none, none, none, none, none, none, none, none, none, none, none, none, none] = some (1, txts pool) := by
  with_unfolding_all rfl
section
variable {ns : List Int} {tk K : List Str} {rs : List Rw}
abbrev ndE (ns : List Int) (tk K : List Str) (rs : List Rw) (ds : List Int) (N : List Str) (x5 x8 x9 x10 x11 x12 x13 x14 : Option (Nat × D)) : PV.Env := [some (0, .rol ns), some (1, txts pool), some (1, txts tk), some (1, txts K), some (1, rowsD rs), x5, some (0, inL ds), some (1, txts N), x8, x9, x10, x11, x12, x13, x14, none]
abbrev pickE : Exp := .idx (.var 3) (.bin .mod (.var 8) (.blt .len (.var 3)))
abbrev pickC : Exp := .and_ (.cmp .ne (.var 3) (.lst .nil)) (.cmp .notin pickE (.var 7))
abbrev ndB : Sta := (.cons (.ite pickC (.cons (.app 7 pickE) .nil) .nil) .nil)
theorem nd_turn {ds : List Int} {N : List Str} {n : Nat} {x5 x6 x9 x10 x11 x12 x13 x14 : Option (Nat × D)} (ho : Old x6 x9 x10 x11 x12 x13 x14) (h5 : x5 = none ∨ ∃ d, x5 = some (0, d)) (hp : ∀ x ∈ K, x ∈ pool) (hN : ∀ x ∈ N, x ∈ K) (nd : N.Nodup) (hl : N.length < cap) :
    ∃ N' : List Str, (∀ x ∈ N', x ∈ K) ∧ N'.Nodup ∧ N'.length ≤ N.length + 1 ∧ PV.exec (CC 4) G W ndB (ndE ns tk K rs ds N x5 (some (0, .int (n : Nat))) x9 x10 x11 x12 x13 x14) = some (.nx (ndE ns tk K rs ds N' x5 (some (0, .int (n : Nat))) x9 x10 x11 x12 x13 x14)) := by
  -- what is read
  have hx : ∀ m : List Nat, ∃ z1 z2 z3 z4 z5 z7 z9 z10 z11 z12 z13 z14 : Option D, (3 ∈ m → z3 = some (txts K)) ∧ (7 ∈ m → z7 = some (txts N)) ∧ expose m 0 (ndE ns tk K rs ds N x5 (some (0, .int (n : Nat))) x9 x10 x11 x12 x13 x14) = [some (.rol ns), z1, z2, z3, z4, z5, some (inL ds), z7, some (.int (n : Nat)), z9, z10, z11, z12, z13, z14, none] := fun m => by
    rcases h5 with rfl | ⟨d5, rfl⟩ <;> rcases ho with ⟨rfl, rfl, rfl, rfl, rfl, rfl, rfl⟩ | ⟨a, b, c, d, f, g, h, rfl, rfl, rfl, rfl, rfl, rfl, rfl⟩ <;>
    exact ⟨_, _, _, _, _, _, _, _, _, _, _, _, fun h3 => if_pos (Or.inr h3), fun h7 => if_pos (Or.inr h7), rfl⟩
  obtain ⟨z1, z2, z3, z4, z5, z7, z9, z10, z11, z12, z13, z14, h3, h7, hex⟩ := hx (fv pickC)
  have h3 := h3 (by decide)
  have h7 := h7 (by decide)
  subst h3 h7
  have e1 := ne_nil_ok (CC 4) (j := 3) (l := K) (ρ := [some (.rol ns), z1, z2, some (txts K), z4, z5, some (inL ds), some (txts N), some (.int (n : Nat)), z9, z10, z11, z12, z13, z14, none]) rfl hp
  by_cases hk : K = []
  · rw [decide_eq_true hk] at e1
    refine ⟨N, hN, nd, Nat.le_succ _, (ex_nx ((ex_false (evB_of (k := 0) ?_)).trans ex_nil)).trans ex_nil⟩
    rw [hex]
    exact and_f e1
  · rw [decide_eq_false hk] at e1
    have hpos : 0 < K.length := List.length_pos_iff.mpr hk
    have hlt := Nat.mod_lt n hpos
    obtain ⟨y, y1, y2⟩ : ∃ y, y ∈ K ∧ K[n % K.length]? = some y := ⟨_, List.getElem_mem hlt, List.getElem?_eq_getElem hlt⟩
    have hm : binD .mod (.int (n : Nat)) (.int (K.length : Nat)) = some (0, .int ((n % K.length : Nat) : Int)) := by
      rw [mod_c _ _ (by omega)]; rfl
    have hix : idxD (txts K) (.int ((n % K.length : Nat) : Int)) = some (.str y) := by
      show atI (K.map D.str) _ = _
      exact atI_nat (by rw [List.getElem?_map, y2]; rfl)
    have ep : ∀ ρ : Ro, ρ[3]? = some (some (txts K)) → ρ[8]? = some (some (.int (n : Nat))) → ev (CC 4) G pickE ρ = some (0, .str y) := fun ρ g3 g8 => by
      simp only [ev, g3, g8, len_txts, hm, hix, Option.map_some]
    have e2 : ev (CC 4) G (.cmp .notin pickE (.var 7)) [some (.rol ns), z1, z2, some (txts K), z4, z5, some (inL ds), some (txts N), some (.int (n : Nat)), z9, z10, z11, z12, z13, z14, none] = some (0, .bl !decide (y ∈ N)) := by
      have e7 : ev (CC 4) G (.var 7) [some (.rol ns), z1, z2, some (txts K), z4, z5, some (inL ds), some (txts N), some (.int (n : Nat)), z9, z10, z11, z12, z13, z14, none] = some (0, txts N) := rfl
      rw [ev, ep _ rfl rfl, e7]
      simp only [cmpD, in_txts, Option.map_some]
    by_cases hy : y ∈ N
    · rw [decide_eq_true hy] at e2
      refine ⟨N, hN, nd, Nat.le_succ _, (ex_nx ((ex_false (evB_of (k := 0) ?_)).trans ex_nil)).trans ex_nil⟩
      rw [hex]
      exact and_t e1 e2
    · rw [decide_eq_false hy] at e2
      refine ⟨N ++ [y], fun x hx => ?_, List.nodup_append.mpr ⟨nd, by simp, fun a ha b hb e => hy (by rw [← List.mem_singleton.mp hb, ← e]; exact ha)⟩, by rw [List.length_append]; exact Nat.le_refl _, ?_⟩
      · rcases List.mem_append.mp hx with hx | hx
        · exact hN x hx
        · rw [List.mem_singleton.mp hx]; exact y1
      · obtain ⟨w1, w2, w3, w4, w5, w7, w9, w10, w11, w12, w13, w14, g3, _, hex2⟩ := hx (fv pickE)
        have g3 := g3 (by decide)
        subst g3
        have : txts (N ++ [y]) = .lst (N.map D.str ++ [.str y]) := by unfold txts; rw [List.map_append]; rfl
        refine (ex_nx ((ex_true (evB_of (k := 0) ?_)).trans ((ex_nx (ex_app (i := 7) (xs0 := N.map D.str) (xs := N.map D.str) (k := 0) (d := .str y) rfl (evS_ns ?_ rfl) rfl ?_)).trans ex_nil))).trans ?_
        · rw [hex]
          exact and_t e1 e2
        · rw [hex2]
          exact ep _ rfl rfl
        · rw [List.length_map]; exact hl
        · unfold ndE
          rw [this]; rfl
theorem nd_loop {ds : List Int} {x5 x6 x9 x10 x11 x12 x13 x14 : Option (Nat × D)} (ho : Old x6 x9 x10 x11 x12 x13 x14) (h5 : x5 = none ∨ ∃ d, x5 = some (0, d)) (hp : ∀ x ∈ K, x ∈ pool) : ∀ (l : List Nat) (N : List Str) (x8 : Option (Nat × D)), (∀ x ∈ N, x ∈ K) → N.Nodup → N.length + l.length ≤ 1000 → (x8 = none ∨ ∃ d, x8 = some (0, d)) →
    ∃ (N' : List Str) (y8 : Option (Nat × D)), (y8 = none ∨ ∃ d, y8 = some (0, d)) ∧ (∀ x ∈ N', x ∈ K) ∧ N'.Nodup ∧ N'.length ≤ N.length + l.length ∧ forL (.one 8) (fun r => PV.exec (CC 4) G W ndB r) (l.map fun i => D.int ((i : Nat) : Int)) (ndE ns tk K rs ds N x5 x8 x9 x10 x11 x12 x13 x14) = some (.nx (ndE ns tk K rs ds N' x5 y8 x9 x10 x11 x12 x13 x14))
  | [], N, x8, hN, nd, hl, h8 => ⟨N, x8, h8, hN, nd, Nat.le_refl _, rfl⟩
  | n :: l, N, x8, hN, nd, hl, h8 => by
    rw [List.length_cons] at hl
    obtain ⟨N1, a1, a2, a3, a4⟩ := nd_turn (ns := ns) (tk := tk) (rs := rs) (ds := ds) (n := n) ho h5 hp hN nd (show N.length < 100000 by omega)
    obtain ⟨N2, y8, c0, c1, c2, c3, c4⟩ := nd_loop (ds := ds) ho h5 hp l N1 (some (0, .int (n : Nat))) a1 a2 (by omega) (.inr ⟨_, rfl⟩)
    refine ⟨N2, y8, c0, c1, c2, by rw [List.length_cons]; omega, ?_⟩
    have ea : asgE (.one 8) (.int ((n : Nat) : Int)) (ndE ns tk K rs ds N x5 x8 x9 x10 x11 x12 x13 x14) = some (ndE ns tk K rs ds N x5 (some (0, .int (n : Nat))) x9 x10 x11 x12 x13 x14) := rfl
    rw [List.map_cons]
    unfold forL
    rw [ea]
    dsimp only
    rw [a4]
    exact c4
end
theorem nat_digs (r : Int) (bs : List Int) (hb : ∀ b ∈ bs, 0 < b) : ∃ ms : List Nat, digs r bs = ms.map fun n => ((n : Nat) : Int) := by
  refine ⟨(digs r bs).map Int.toNat, ?_⟩
  rw [List.map_map]
  refine (List.map_id _).symm.trans (List.map_congr_left fun d hd => ?_)
  obtain ⟨i, hi⟩ := List.mem_iff_getElem?.mp hd
  have hlt : i < bs.length := by
    have := (List.getElem?_eq_some_iff.mp hi).1
    rw [digs_len] at this
    exact this
  have := digs_bd r bs hb i d bs[i] hi (List.getElem?_eq_getElem hlt)
  show d = ((d.toNat : Nat) : Int)
  omega
theorem cell_mod {ns : List Int} {j : Nat} {b : Int} (hb : 0 < b) : ∃ n : Nat, (n : Int) < b ∧ ∀ ρ : Ro, ρ[0]? = some (some (.rol ns)) → ev (CC 4) G (.bin .mod (.call "_law_cell_at" (.cons (.var 0) (.cons (.int (j : Nat)) .nil)) [] .nil) (.int b)) ρ = some (0, .int (n : Nat)) := by
  obtain ⟨c, hc⟩ := cell_ok 3 ns j
  have h1 : 0 ≤ c % b := Int.emod_nonneg _ (by omega)
  have h2 : c % b < b := Int.emod_lt_of_pos _ hb
  refine ⟨(c % b).toNat, by omega, fun ρ g => ?_⟩
  rw [show (((c % b).toNat : Nat) : Int) = c % b by omega]
  simp only [ev, evs, g, hc, mod_c _ _ hb]
theorem straight_ok (ns : List Int) : ∃ (rs : List Rw) (tk ls : List Str), Right rs tk ls ∧ CC 5 (.fn "_law_straight") [.rol ns] [] [] = some (0, .tup [rowsD rs, txts tk, txts ls]) := by
  obtain ⟨n0, m0, c0⟩ := cell_mod (ns := ns) (j := 0) (b := 4) (by decide)
  obtain ⟨n1, m1, c1⟩ := cell_mod (ns := ns) (j := 1) (b := 6) (by decide)
  obtain ⟨n2, m2, c2⟩ := cell_mod (ns := ns) (j := 2) (b := 21) (by decide)
  obtain ⟨n5, m5, c5⟩ := cell_mod (ns := ns) (j := 25) (b := 7) (by decide)
  obtain ⟨tk, htk⟩ : ∃ tk, tk = (pool.drop n0).take n1 := ⟨_, rfl⟩
  have htp : ∀ x ∈ tk, x ∈ pool := fun x hx => by
    rw [htk] at hx
    exact List.mem_of_mem_drop (List.mem_of_mem_take hx)
  have htn : tk.Nodup := by
    rw [htk]
    exact pool_nodup.sublist ((List.take_sublist ..).trans (List.drop_sublist ..))
  have htl : tk.length ≤ 5 := by
    rw [htk, List.length_take]
    omega
  have t1 : PV.exec (CC 4) G W (.set 1 (.bin .add (.lst (.cons (.str "a") (.cons (.str "plus") (.cons (.str "ask") (.cons (.str "go") (.cons (.str "b") (.cons (.str "set") (.cons (.str "give") (.cons (.str "c") .nil))))))))) (.lc [5] (.one 5) (.rng (.int 20)) .yes (.bin .add (.str "n") (.idx (.str "abcdefghijklmnopqrst") (.var 5)))))) [some (0, .rol ns), none, none, none, none, none, none, none, none, none, none, none, none, none, none, none] = some (.nx [some (0, .rol ns), some (1, txts pool), none, none, none, none, none, none, none, none, none, none, none, none, none, none]) :=
    (ex_set (k := 1) (d := txts pool) (evS_ns (pool_ev ns) (nosh_txts _))).trans rfl
  have t2 : PV.exec (CC 4) G W (.set 2 (.slc (.slc (.var 1) (.itr (.bin .mod (.call "_law_cell_at" (.cons (.var 0) (.cons (.int 0) .nil)) [] .nil) (.int 4))) .nil) .nil (.itr (.bin .mod (.call "_law_cell_at" (.cons (.var 0) (.cons (.int 1) .nil)) [] .nil) (.int 6))))) [some (0, .rol ns), some (1, txts pool), none, none, none, none, none, none, none, none, none, none, none, none, none, none] = some (.nx [some (0, .rol ns), some (1, txts pool), some (1, txts tk), none, none, none, none, none, none, none, none, none, none, none, none, none]) := by
    refine (ex_set (k := 1) (d := txts tk) (evS_ns ?_ (nosh_txts _))).trans rfl
    show ev (CC 4) G _ [some (.rol ns), some (txts pool), none, none, none, none, none, none, none, none, none, none, none, none, none, none] = _
    have e0 := c0 [some (.rol ns), some (txts pool), none, none, none, none, none, none, none, none, none, none, none, none, none, none] rfl
    have e1 := c1 [some (.rol ns), some (txts pool), none, none, none, none, none, none, none, none, none, none, none, none, none, none] rfl
    have e2 : ev (CC 4) G (.slc (.var 1) (.itr (.bin .mod (.call "_law_cell_at" (.cons (.var 0) (.cons (.int 0) .nil)) [] .nil) (.int 4))) .nil) [some (.rol ns), some (txts pool), none, none, none, none, none, none, none, none, none, none, none, none, none, none] = some (1, txts (pool.drop n0)) := by
      have ev1 : ev (CC 4) G (.var 1) [some (.rol ns), some (txts pool), none, none, none, none, none, none, none, none, none, none, none, none, none, none] = some (0, txts pool) := rfl
      have eo : evO (CC 4) G (.itr (.bin .mod (.call "_law_cell_at" (.cons (.var 0) (.cons (.int 0) .nil)) [] .nil) (.int 4))) [some (.rol ns), some (txts pool), none, none, none, none, none, none, none, none, none, none, none, none, none, none] = some (some (n0 : Int)) := by
        rw [evO, show ev (CC 4) G (.bin .mod (.call "_law_cell_at" (.cons (.var 0) (.cons (.int 0) .nil)) [] .nil) (.int 4)) _ = _ from e0]
      have en : ∀ ρ : Ro, evO (CC 4) G .nil ρ = some none := fun _ => rfl
      rw [ev, ev1, eo, en]
      show some (1, D.lst (cutL (pool.map D.str) (some (n0 : Int)) none)) = _
      rw [cut_drop, ← List.map_drop]; rfl
    have eo : evO (CC 4) G (.itr (.bin .mod (.call "_law_cell_at" (.cons (.var 0) (.cons (.int 1) .nil)) [] .nil) (.int 6))) [some (.rol ns), some (txts pool), none, none, none, none, none, none, none, none, none, none, none, none, none, none] = some (some (n1 : Int)) := by
      rw [evO, show ev (CC 4) G (.bin .mod (.call "_law_cell_at" (.cons (.var 0) (.cons (.int 1) .nil)) [] .nil) (.int 6)) _ = _ from e1]
    have en : ∀ ρ : Ro, evO (CC 4) G .nil ρ = some none := fun _ => rfl
    rw [ev, e2, eo, en, htk]
    show some (1, D.lst (cutL ((pool.drop n0).map D.str) none (some (n1 : Int)))) = _
    rw [cut_take, ← List.map_take]; rfl
  have t3 : PV.exec (CC 4) G W (.set 3 (.blt .list (.var 2))) [some (0, .rol ns), some (1, txts pool), some (1, txts tk), none, none, none, none, none, none, none, none, none, none, none, none, none] = some (.nx [some (0, .rol ns), some (1, txts pool), some (1, txts tk), some (1, txts tk), none, none, none, none, none, none, none, none, none, none, none, none]) :=
    (ex_set (k := 1) (d := txts tk) (evS_ns rfl (nosh_txts _))).trans rfl
  have t4 : PV.exec (CC 4) G W (.set 4 (.lst .nil)) [some (0, .rol ns), some (1, txts pool), some (1, txts tk), some (1, txts tk), none, none, none, none, none, none, none, none, none, none, none, none] = some (.nx (stE ns tk (tk ++ setsL []) [] none none none none none none none none)) := by
    rw [show tk ++ setsL [] = tk from List.append_nil tk]
    exact (ex_set (k := 1) (d := .lst []) (evS_ns rfl rfl)).trans rfl
  obtain ⟨rs, y5, y6, y9, y10, y11, y12, y13, y14, o1, o5, o2, o3, o4, o6⟩ := row_loop (ns := ns) htp htn htl (List.range n2) [] none none none none none none none none (fun i hi => by have := List.mem_range.mp hi; omega) (.inl ⟨rfl, rfl, rfl, rfl, rfl, rfl, rfl⟩) (.inl rfl) (by rw [List.length_range]; show 0 + n2 ≤ 20; omega) trivial (fun r hr => by cases hr)
  have t5 : PV.exec (CC 4) G W (.for_ (.one 5) (.rng (.bin .mod (.call "_law_cell_at" (.cons (.var 0) (.cons (.int 2) .nil)) [] .nil) (.int 21))) rowT) (stE ns tk (tk ++ setsL []) [] none none none none none none none none) = some (.nx (stE ns tk (tk ++ setsL rs) rs y5 y6 y9 y10 y11 y12 y13 y14)) := by
    refine (ex_for (ds := (List.range n2).map fun i => D.int ((i : Nat) : Int)) rfl ?_).trans o6
    have e := c2 [some (.rol ns), none, none, none, none, none, none, none, none, none, none, none, none, none, none, none] rfl
    show evI (CC 4) G (.rng (.bin .mod (.call "_law_cell_at" (.cons (.var 0) (.cons (.int 2) .nil)) [] .nil) (.int 21))) [some (.rol ns), none, none, none, none, none, none, none, none, none, none, none, none, none, none, none] = _
    rw [evI, show ev (CC 4) G (.bin .mod (.call "_law_cell_at" (.cons (.var 0) (.cons (.int 2) .nil)) [] .nil) (.int 21)) _ = _ from e]
    dsimp only
    rw [if_pos ⟨by show _ ≤ ((100000 : Nat) : Int); omega, by omega⟩, rngD_nat]
  have hnames : ∀ x ∈ tk ++ setsL rs, x ∈ pool := fun x hx => by
    rcases List.mem_append.mp hx with hx | hx
    · exact htp x hx
    · obtain ⟨j, r, a, b⟩ := mem_setsL.mp hx
      exact ok_sets (o3 r (List.mem_of_getElem? a)) b
  obtain ⟨c, hc⟩ := cell_ok 3 ns 24
  obtain ⟨r, hr⟩ := numbers_ok 3 c [9973, 9973, 9973, 9973, 9973, 9973, 9973, 9973] (by decide) (by decide)
  obtain ⟨ms, hms⟩ := nat_digs r [9973, 9973, 9973, 9973, 9973, 9973, 9973, 9973] (by decide)
  have hml : ms.length = 8 := by
    have := congrArg List.length hms
    rw [digs_len, List.length_map] at this
    exact this.symm
  rw [hms] at hr
  have t6 : PV.exec (CC 4) G W (.set 6 (.call "_law_numbers" (.cons (.call "_law_cell_at" (.cons (.var 0) (.cons (.int 24) .nil)) [] .nil) (.cons (.bin .mul (.lst (.cons (.int 9973) .nil)) (.int 8)) .nil)) [] .nil)) (stE ns tk (tk ++ setsL rs) rs y5 y6 y9 y10 y11 y12 y13 y14) = some (.nx (stE ns tk (tk ++ setsL rs) rs y5 (some (1, inL (ms.map fun n => ((n : Nat) : Int)))) y9 y10 y11 y12 y13 y14)) := by
    refine (ex_set (k := 1) (d := inL (ms.map fun n => ((n : Nat) : Int))) (evS_ns ?_ (nosh_inL _))).trans rfl
    have g := exp_get (m := fv (.call "_law_numbers" (.cons (.call "_law_cell_at" (.cons (.var 0) (.cons (.int 24) .nil)) [] .nil) (.cons (.bin .mul (.lst (.cons (.int 9973) .nil)) (.int 8)) .nil)) [] .nil)) (i := 0) (j := 0) (ρ := stE ns tk (tk ++ setsL rs) rs y5 y6 y9 y10 y11 y12 y13 y14) rfl (.inl rfl)
    have el : ∀ ρ : Ro, ev (CC 4) G (.bin .mul (.lst (.cons (.int 9973) .nil)) (.int 8)) ρ = some (1, inL [9973, 9973, 9973, 9973, 9973, 9973, 9973, 9973]) := fun ρ => by with_unfolding_all rfl
    have ec : ∀ ρ : Ro, ρ[0]? = some (some (.rol ns)) → ev (CC 4) G (.call "_law_cell_at" (.cons (.var 0) (.cons (.int 24) .nil)) [] .nil) ρ = some (0, .int c) := fun ρ g => by
      simp only [ev, evs, g]
      exact hc
    rw [ev]
    simp only [evs, ec _ g, el]
    exact hr
  have t7 : PV.exec (CC 4) G W (.set 7 (.lst .nil)) (stE ns tk (tk ++ setsL rs) rs y5 (some (1, inL (ms.map fun n => ((n : Nat) : Int)))) y9 y10 y11 y12 y13 y14) = some (.nx [some (0, .rol ns), some (1, txts pool), some (1, txts tk), some (1, txts (tk ++ setsL rs)), some (1, rowsD rs), y5, some (1, inL (ms.map fun n => ((n : Nat) : Int))), some (1, txts []), none, y9, y10, y11, y12, y13, y14, none]) :=
    (ex_set (k := 1) (d := .lst []) (evS_ns rfl rfl)).trans rfl
  obtain ⟨ls, y8, l0, l1, l2, l3, l4⟩ := nd_loop (ns := ns) (tk := tk) (rs := rs) (ds := ms.map fun n => ((n : Nat) : Int)) o1 o5 hnames (ms.take n5) [] none (fun x hx => by cases hx) List.nodup_nil (by rw [List.length_take]; show 0 + min n5 ms.length ≤ 1000; omega) (.inl rfl)
  have t8 : PV.exec (CC 4) G W (.for_ (.one 8) (.itn (.slc (.var 6) .nil (.itr (.bin .mod (.call "_law_cell_at" (.cons (.var 0) (.cons (.int 25) .nil)) [] .nil) (.int 7))))) ndB) [some (0, .rol ns), some (1, txts pool), some (1, txts tk), some (1, txts (tk ++ setsL rs)), some (1, rowsD rs), y5, some (1, inL (ms.map fun n => ((n : Nat) : Int))), some (1, txts []), none, y9, y10, y11, y12, y13, y14, none] = some (.nx (ndE ns tk (tk ++ setsL rs) rs (ms.map fun n => ((n : Nat) : Int)) ls y5 y8 y9 y10 y11 y12 y13 y14)) := by
    refine (ex_for (ds := (ms.take n5).map fun i => D.int ((i : Nat) : Int)) rfl ?_).trans (Eq.trans ?_ l4)
    · have g0 := exp_get (m := fv (.itn (.slc (.var 6) .nil (.itr (.bin .mod (.call "_law_cell_at" (.cons (.var 0) (.cons (.int 25) .nil)) [] .nil) (.int 7)))))) (i := 0) (j := 0) (ρ := [some (0, .rol ns), some (1, txts pool), some (1, txts tk), some (1, txts (tk ++ setsL rs)), some (1, rowsD rs), y5, some (1, inL (ms.map fun n => ((n : Nat) : Int))), some (1, txts []), none, y9, y10, y11, y12, y13, y14, none]) rfl (.inl rfl)
      have g6 := exp_get (m := fv (.itn (.slc (.var 6) .nil (.itr (.bin .mod (.call "_law_cell_at" (.cons (.var 0) (.cons (.int 25) .nil)) [] .nil) (.int 7)))))) (i := 0) (j := 6) (ρ := [some (0, .rol ns), some (1, txts pool), some (1, txts tk), some (1, txts (tk ++ setsL rs)), some (1, rowsD rs), y5, some (1, inL (ms.map fun n => ((n : Nat) : Int))), some (1, txts []), none, y9, y10, y11, y12, y13, y14, none]) rfl (.inr (by decide))
      revert g0 g6
      generalize expose _ 0 _ = ρ
      intro g0 g6
      have e := c5 ρ g0
      have e6 : ev (CC 4) G (.var 6) ρ = some (0, inL (ms.map fun n => ((n : Nat) : Int))) := by simp only [ev, g6]
      have eo : evO (CC 4) G (.itr (.bin .mod (.call "_law_cell_at" (.cons (.var 0) (.cons (.int 25) .nil)) [] .nil) (.int 7))) ρ = some (some (n5 : Int)) := by
        rw [evO, show ev (CC 4) G (.bin .mod (.call "_law_cell_at" (.cons (.var 0) (.cons (.int 25) .nil)) [] .nil) (.int 7)) _ = _ from e]
      have en : evO (CC 4) G .nil ρ = some none := rfl
      have es : ev (CC 4) G (.slc (.var 6) .nil (.itr (.bin .mod (.call "_law_cell_at" (.cons (.var 0) (.cons (.int 25) .nil)) [] .nil) (.int 7)))) ρ = some (1, .lst ((ms.take n5).map fun i => D.int ((i : Nat) : Int))) := by
        rw [ev, e6, eo, en]
        show some (1, D.lst (cutL ((ms.map fun n => ((n : Nat) : Int)).map D.int) none (some (n5 : Int)))) = _
        rw [cut_take, List.map_map, ← List.map_take]; rfl
      simp only [evI, es]
    · rcases o5 with rfl | ⟨d5, rfl⟩ <;> rcases o1 with ⟨rfl, rfl, rfl, rfl, rfl, rfl, rfl⟩ | ⟨a, b, c, d, f, g, h, rfl, rfl, rfl, rfl, rfl, rfl, rfl⟩ <;> rfl
  refine ⟨rs, tk, ls, ⟨o3, o4, htp, htn, by omega, fun x hx => hnames x (l1 x hx), l2, ?_, o2, l1⟩, ?_⟩
  · rw [List.length_take] at l3
    have : ([] : List Str).length = 0 := rfl
    omega
  · show runD (CC 4) G W d_law_straight [.rol ns] = _
    have t9 : PV.exec (CC 4) G W (.ret (.tup (.cons (.var 4) (.cons (.var 2) (.cons (.var 7) .nil))))) (ndE ns tk (tk ++ setsL rs) rs (ms.map fun n => ((n : Nat) : Int)) ls y5 y8 y9 y10 y11 y12 y13 y14) = some (.rt 0 (.tup [rowsD rs, txts tk, txts ls])) := by
      refine ex_ret (evS_fz ?_ rfl)
      have g4 := exp_get (m := fv (.tup (.cons (.var 4) (.cons (.var 2) (.cons (.var 7) .nil))))) (i := 0) (j := 4) (ρ := ndE ns tk (tk ++ setsL rs) rs (ms.map fun n => ((n : Nat) : Int)) ls y5 y8 y9 y10 y11 y12 y13 y14) rfl (.inr (by decide))
      have g2 := exp_get (m := fv (.tup (.cons (.var 4) (.cons (.var 2) (.cons (.var 7) .nil))))) (i := 0) (j := 2) (ρ := ndE ns tk (tk ++ setsL rs) rs (ms.map fun n => ((n : Nat) : Int)) ls y5 y8 y9 y10 y11 y12 y13 y14) rfl (.inr (by decide))
      have g7 := exp_get (m := fv (.tup (.cons (.var 4) (.cons (.var 2) (.cons (.var 7) .nil))))) (i := 0) (j := 7) (ρ := ndE ns tk (tk ++ setsL rs) rs (ms.map fun n => ((n : Nat) : Int)) ls y5 y8 y9 y10 y11 y12 y13 y14) rfl (.inr (by decide))
      simp only [ev, evs, g4, g2, g7]
      rfl
    exact run_rt ((ex_nx t1).trans ((ex_nx t2).trans ((ex_nx t3).trans ((ex_nx t4).trans ((ex_nx t5).trans ((ex_nx t6).trans ((ex_nx t7).trans ((ex_nx t8).trans (ex_rt t9)))))))))
end K9

set_option Elab.async false
set_option linter.all false
set_option maxRecDepth 100000
set_option maxHeartbeats 4000000
/-! k09, part Xj: _law_bent. -/
namespace K9
open PySem PySem.Spec PyProof.Rows L2 PV
/-- a hand for a name: in its place, or at the end -/
def putI (dl : Dl) (x : Str) (i : Int) : Dl := if x ∈ dl.map (·.1) then dl.map fun p => if p.1 = x then (p.1, i) else p else dl ++ [(x, i)]
theorem putI_keys (dl : Dl) (x : Str) (i : Int) : (putI dl x i).map (·.1) = if x ∈ dl.map (·.1) then dl.map (·.1) else dl.map (·.1) ++ [x] := by
  unfold putI
  by_cases h : x ∈ dl.map (·.1)
  · rw [if_pos h, if_pos h, List.map_map]
    refine List.map_congr_left fun p _ => ?_
    show (if p.1 = x then (p.1, i) else p).1 = p.1
    split <;> rfl
  · rw [if_neg h, if_neg h, List.map_append]; rfl
theorem put_any {dl : Dl} (x : Str) (i : Int) (hl : dl.length < cap) : putAt (dD dl) (.str x) (.int i) = some (dD (putI dl x i)) := by
  by_cases h : x ∈ dl.map (·.1)
  · show (if (dl.map kvI).length < cap then some (D.dic (putD (dl.map kvI) (.inr x : Key) (.int i))) else none) = _
    rw [if_pos (by rw [List.length_map]; exact hl)]
    unfold putD putI
    rw [if_pos h, if_pos]
    · unfold dD
      rw [List.map_map, List.map_map]
      congr 2
      refine List.map_congr_left fun p _ => ?_
      show (if (Sum.inr p.1 : Key) = .inr x then ((Sum.inr p.1 : Key), D.int i) else kvI p) = kvI (if p.1 = x then (p.1, i) else p)
      by_cases e : p.1 = x
      · rw [if_pos e, if_pos (by rw [e])]; rfl
      · rw [if_neg e, if_neg (fun z => e (Sum.inr.inj z))]
    · obtain ⟨p, hp, e⟩ := List.mem_map.mp h
      exact List.any_eq_true.mpr ⟨kvI p, List.mem_map.mpr ⟨p, hp, rfl⟩, decide_eq_true (by rw [← e]; rfl)⟩
  · rw [put_dD h i hl]
    unfold putI
    rw [if_neg h]
theorem sub_c (a b : Int) : binD .sub (.int a) (.int b) = some (0, .int (a - b)) := rfl
/-- hands that may be asked -/
structure Hd (n : Nat) (dl : Dl) : Prop where
  ks : ∀ x ∈ dl.map (·.1), x ∈ pool ∨ x = "zz"
  nd : (dl.map (·.1)).Nodup
  len : dl.length ≤ n
theorem Hd.put {n : Nat} {dl : Dl} (h : Hd n dl) {x : Str} (hx : x ∈ dl.map (·.1)) (i : Int) : Hd n (putI dl x i) := by
  have e := putI_keys dl x i
  rw [if_pos hx] at e
  refine ⟨by rw [e]; exact h.ks, by rw [e]; exact h.nd, ?_⟩
  have := congrArg List.length e
  rw [List.length_map, List.length_map] at this
  rw [this]; exact h.len
theorem Hd.more {n : Nat} {dl : Dl} (h : Hd n dl) {x : Str} (hp : x ∈ pool ∨ x = "zz") (i : Int) : Hd (n + 1) (putI dl x i) := by
  have e := putI_keys dl x i
  by_cases hx : x ∈ dl.map (·.1)
  · have := h.put hx i
    exact ⟨this.ks, this.nd, Nat.le_succ_of_le this.len⟩
  · rw [if_neg hx] at e
    refine ⟨fun y hy => ?_, ?_, ?_⟩
    · rw [e] at hy
      rcases List.mem_append.mp hy with hy | hy
      · exact h.ks y hy
      · rw [List.mem_singleton.mp hy]; exact hp
    · rw [e]
      exact List.nodup_append.mpr ⟨h.nd, by simp, fun a ha b hb z => hx (by rw [← List.mem_singleton.mp hb, ← z]; exact ha)⟩
    · have := congrArg List.length e
      rw [List.length_map, List.length_append, List.length_map, List.length_singleton] at this
      rw [this]
      have := h.len
      omega
theorem Hd.drop {n : Nat} {dl : Dl} (h : Hd n dl) (x : Str) : Hd n (dl.filter fun p => decide (p.1 ≠ x)) := by
  have sub : ((dl.filter fun p => decide (p.1 ≠ x)).map (·.1)).Sublist (dl.map (·.1)) := (List.filter_sublist ..).map _
  exact ⟨fun y hy => h.ks y (sub.subset hy), h.nd.sublist sub, Nat.le_trans (List.length_filter_le ..) h.len⟩
theorem Hd.mono {n m : Nat} {dl : Dl} (h : Hd n dl) (hm : n ≤ m) : Hd m dl := ⟨h.ks, h.nd, Nat.le_trans h.len hm⟩
theorem pop_dD {dl : Dl} {x : Str} (hx : x ∈ dl.map (·.1)) : ∃ v, popAt (dD dl) (.str x) = some (v, dD (dl.filter fun p => decide (p.1 ≠ x))) := by
  have hvv := val_dD dl x
  have hs := hv_some hx
  cases hh : hv dl x with
  | none => rw [hh] at hs; cases hs
  | some i =>
    rw [hh] at hvv
    refine ⟨.int i, ?_⟩
    show (match (some (.inr x) : Option Key) with
      | some k => match valD (dl.map kvI) k with
        | some v => some (v, D.dic (dropD (dl.map kvI) k))
        | none => none
      | none => none) = _
    dsimp only
    rw [hvv]
    show some (D.int i, D.dic (dropD (dl.map kvI) (.inr x : Key))) = _
    unfold dropD dD
    rw [List.filter_map]
    congr 4
    refine List.filter_congr fun p _ => ?_
    show decide ((Sum.inr p.1 : Key) ≠ .inr x) = decide (p.1 ≠ x)
    rw [decide_eq_decide]
    exact ⟨fun z e => z (by rw [e]), fun z e => z (Sum.inr.inj e)⟩
/-- the slots of _law_bent -/
abbrev bnE (M P c : Int) (dl : Dl) (L : List Str) (kd : Int) (x6 x7 x8 x9 x10 : Option (Nat × D)) : PV.Env := [some (0, .int M), some (0, .int P), some (1, dD dl), some (0, .int c), some (1, txts L), some (0, .int kd), x6, x7, x8, x9, x10]
abbrev bnB : Sta := (.cons (.seti 2 (.var 8) (.bin .sub (.bin .sub (.var 0) (.int 1)) (.idx (.var 2) (.var 8)))) .nil)
section
variable {C : CT} {M P c kd : Int} {dl : Dl} {L : List Str}
/-- a name by a number -/
theorem pick_ok {ρ : Ro} (b : Int) (hb : 0 < b ∧ b < 1073741824) (hL : L ≠ []) (g3 : ρ[3]? = some (some (.int c))) (g4 : ρ[4]? = some (some (txts L))) : ∃ x ∈ L, ev C G (.idx (.var 4) (.bin .mod (.bin .fdiv (.var 3) (.int b)) (.blt .len (.var 4)))) ρ = some (0, .str x) := by
  have hpos : 0 < L.length := List.length_pos_iff.mpr hL
  have m1 : 0 ≤ c / b % (L.length : Nat) := Int.emod_nonneg _ (by omega)
  have m2 : c / b % (L.length : Nat) < (L.length : Nat) := Int.emod_lt_of_pos _ (by omega)
  obtain ⟨n, hn⟩ : ∃ n : Nat, c / b % (L.length : Nat) = (n : Nat) := ⟨(c / b % (L.length : Nat)).toNat, by omega⟩
  rw [hn] at m2
  have hlt : n < L.length := by omega
  refine ⟨L[n], List.getElem_mem hlt, ?_⟩
  have hix : idxD (txts L) (.int (n : Nat)) = some (.str L[n]) := by
    show atI (L.map D.str) _ = _
    exact atI_nat (by rw [List.getElem?_map, List.getElem?_eq_getElem hlt]; rfl)
  simp only [ev, g3, g4, fdiv_c _ _ hb, len_txts, mod_c _ _ (show (0 : Int) < (L.length : Nat) by omega), hn, hix, Option.map_some]
theorem bn_loop : ∀ (l : List Str) (dl : Dl) (x8 : Option (Nat × D)), (x8 = none ∨ ∃ d, x8 = some (0, d)) → Hd 29 dl → (∀ x ∈ l, x ∈ dl.map (·.1)) →
    ∃ dl' y8, Hd 29 dl' ∧ (y8 = none ∨ ∃ d, y8 = some (0, d)) ∧ forL (.one 8) (fun r => PV.exec C G W bnB r) (l.map D.str) [some (0, .int M), some (0, .int P), some (1, dD dl), some (0, .int c), some (0, txts L), some (0, .int kd), none, none, x8, none, none] = some (.nx [some (0, .int M), some (0, .int P), some (1, dD dl'), some (0, .int c), some (0, txts L), some (0, .int kd), none, none, y8, none, none])
  | [], dl, x8, h8, h, _ => ⟨dl, x8, h, h8, rfl⟩
  | x :: l, dl, x8, h8, h, hl => by
    have hx := hl x (List.mem_cons_self ..)
    have hk := putI_keys dl x (M - 1 - handOf dl x)
    rw [if_pos hx] at hk
    obtain ⟨dl', y8, i1, i2, i3⟩ := bn_loop l (putI dl x (M - 1 - handOf dl x)) (some (0, .str x)) (.inr ⟨_, rfl⟩) (h.put hx _) (fun y hy => by rw [hk]; exact hl y (List.mem_cons_of_mem _ hy))
    refine ⟨dl', y8, i1, i2, ?_⟩
    have ea : asgE (.one 8) (.str x) [some (0, .int M), some (0, .int P), some (1, dD dl), some (0, .int c), some (0, txts L), some (0, .int kd), none, none, x8, none, none] = some [some (0, .int M), some (0, .int P), some (1, dD dl), some (0, .int c), some (0, txts L), some (0, .int kd), none, none, some (0, .str x), none, none] := rfl
    have e1 : ev C G (.bin .sub (.bin .sub (.var 0) (.int 1)) (.idx (.var 2) (.var 8))) [some (.int M), some (.int P), some (dD dl), some (.int c), some (txts L), some (.int kd), none, none, some (.str x), none, none] = some (0, .int (M - 1 - handOf dl x)) := by
      simp only [ev, List.getElem?_cons_zero, List.getElem?_cons_succ, binD, idx_hand hx, Option.map_some]
    have t : PV.exec C G W bnB [some (0, .int M), some (0, .int P), some (1, dD dl), some (0, .int c), some (0, txts L), some (0, .int kd), none, none, some (0, .str x), none, none] = some (.nx [some (0, .int M), some (0, .int P), some (1, dD (putI dl x (M - 1 - handOf dl x))), some (0, .int c), some (0, txts L), some (0, .int kd), none, none, some (0, .str x), none, none]) :=
      (ex_nx (ex_seti (i := 2) (k := 0) (k2 := 0) (d := .int (M - 1 - handOf dl x)) (y := .str x) (d0 := dD dl) (evS_ns e1 rfl) (evS_ns rfl rfl) rfl (put_any x _ (show dl.length < 100000 by have := h.len; omega)))).trans rfl
    rw [List.map_cons]
    unfold forL
    rw [ea]
    dsimp only
    rw [t]
    exact i3
end
theorem ne_nil2 (C : CT) {ρ : Ro} {j : Nat} {l : List Str} (h : ρ[j]? = some (some (txts l))) (hp : ∀ x ∈ l, Lay x) : ev C G (.cmp .ne (.var j) (.lst .nil)) ρ = some (0, .bl !decide (l = [])) := by
  have e1 : ev C G (.var j) ρ = some (0, txts l) := by simp only [ev, h]
  have e2 : ev C G (.lst .nil) ρ = some (1, txts []) := rfl
  rw [ev, e1, e2]
  simp only [cmpD]
  rw [eqd_txts hp (fun x hx => by cases hx)]; rfl
theorem lay_zz : Lay "zz" := by decide +kernel
theorem Hd.lay {n : Nat} {dl : Dl} (h : Hd n dl) : ∀ x ∈ dl.map (·.1), Lay x := fun x hx => by
  rcases h.ks x hx with h | rfl
  · exact lay_pool h
  · exact lay_zz
theorem bent_ok {M P c : Int} {dl : Dl} (hM : 0 ≤ M) (h : Hd 28 dl) : ∃ M' P' dl', Hd 29 dl' ∧ CC 5 (.fn "_law_bent") [.int M, .int P, dD dl, .int c] [] [] = some (0, .tup [.int M', .int P', dD dl']) := by
  show ∃ M' P' dl', Hd 29 dl' ∧ runD (CC 4) G W d_law_bent [.int M, .int P, dD dl, .int c] = _
  have hlen := h.len
  have h29 : Hd 29 dl := h.mono (by decide)
  obtain ⟨L, hL⟩ : ∃ L, L = sortS (dl.map (·.1)) := ⟨_, rfl⟩
  have hperm : L.Perm (dl.map (·.1)) := by rw [hL]; exact sortS_perm _
  have hLay : ∀ x ∈ L, Lay x := fun x hx => h.lay x (hperm.mem_iff.mp hx)
  have s1 : PV.exec (CC 4) G W (.set 2 (.blt .dict (.var 2))) [some (0, .int M), some (0, .int P), some (0, dD dl), some (0, .int c), none, none, none, none, none, none, none] = some (.nx [some (0, .int M), some (0, .int P), some (1, dD dl), some (0, .int c), none, none, none, none, none, none, none]) :=
    (ex_set (k := 1) (d := dD dl) (evS_ns rfl (nosh_dD dl))).trans rfl
  have s2 : PV.exec (CC 4) G W (.set 4 (.blt .sorted (.var 2))) [some (0, .int M), some (0, .int P), some (1, dD dl), some (0, .int c), none, none, none, none, none, none, none] = some (.nx [some (0, .int M), some (0, .int P), some (1, dD dl), some (0, .int c), some (1, txts L), none, none, none, none, none, none]) := by
    refine (ex_set (k := 1) (d := txts L) (evS_ns ?_ (nosh_txts L))).trans rfl
    show ev (CC 4) G _ [some (.int M), some (.int P), some (dD dl), some (.int c), none, none, none, none, none, none, none] = _
    simp only [ev, List.getElem?_cons_zero, List.getElem?_cons_succ, sorted_dD (show dl.length < 64 by omega)]
    rw [hL]
  have s3 : PV.exec (CC 4) G W (.set 5 (.bin .mod (.var 3) (.int 7))) [some (0, .int M), some (0, .int P), some (1, dD dl), some (0, .int c), some (1, txts L), none, none, none, none, none, none] = some (.nx (bnE M P c dl L (c % 7) none none none none none)) := by
    refine (ex_set (k := 0) (d := .int (c % 7)) (evS_ns ?_ rfl)).trans rfl
    show ev (CC 4) G _ [some (.int M), some (.int P), none, some (.int c), none, none, none, none, none, none, none] = _
    simp only [ev, List.getElem?_cons_zero, List.getElem?_cons_succ, mod_c _ 7 (by decide)]
  -- the test of a kind
  have kE : ∀ (ρ : Ro) (n : Int), ρ[5]? = some (some (.int (c % 7))) → ev (CC 4) G (.cmp .eq (.var 5) (.int n)) ρ = some (0, .bl (decide (c % 7 = n))) := fun ρ n g => by
    simp only [ev, g, cmpD, eqd_int, Option.map_some]
  have kE1 : ∀ (n : Int), evB (CC 4) G (.cmp .eq (.var 5) (.int n)) (bnE M P c dl L (c % 7) none none none none none) = some (decide (c % 7 = n)) := fun n => evB_of (k := 0) (kE _ n rfl)
  have kE2 : ∀ (n : Int), evB (CC 4) G (.and_ (.cmp .eq (.var 5) (.int n)) (.cmp .ne (.var 4) (.lst .nil))) (bnE M P c dl L (c % 7) none none none none none) = some (decide (c % 7 = n) && !decide (L = [])) := fun n => evB_of (k := 0) (and_of (kE _ n rfl) (ne_nil2 (CC 4) rfl hLay))
  -- the return
  have fin : ∀ {M' P' : Int} {dl' : Dl} {ρ : PV.Env}, ρ[0]? = some (some (0, .int M')) → ρ[1]? = some (some (0, .int P')) → ρ[2]? = some (some (1, dD dl')) → PV.exec (CC 4) G W (.cons (.ret (.tup (.cons (.var 0) (.cons (.var 1) (.cons (.var 2) .nil))))) .nil) ρ = some (.rt 0 (.tup [.int M', .int P', dD dl'])) := fun {M' P' dl' ρ} g0 g1 g2 => by
    refine ex_rt (ex_ret (evS_fz ?_ rfl))
    have e0 := exp_get (m := fv (.tup (.cons (.var 0) (.cons (.var 1) (.cons (.var 2) .nil))))) (i := 0) (j := 0) g0 (.inl rfl)
    have e1 := exp_get (m := fv (.tup (.cons (.var 0) (.cons (.var 1) (.cons (.var 2) .nil))))) (i := 0) (j := 1) g1 (.inl rfl)
    have e2 := exp_get (m := fv (.tup (.cons (.var 0) (.cons (.var 1) (.cons (.var 2) .nil))))) (i := 0) (j := 2) g2 (.inr (by decide))
    simp only [ev, evs, e0, e1, e2]
    rfl
  -- a turn of the chain: what the whole test does, does the body
  have go : ∀ {M' P' : Int} {dl' : Dl} {ρ : PV.Env} {S : Sta}, Hd 29 dl' → PV.exec (CC 4) G W S (bnE M P c dl L (c % 7) none none none none none) = some (.nx ρ) → ρ[0]? = some (some (0, .int M')) → ρ[1]? = some (some (0, .int P')) → ρ[2]? = some (some (1, dD dl')) → (∀ R, PV.exec (CC 4) G W (.cons S R) (bnE M P c dl L (c % 7) none none none none none) = PV.exec (CC 4) G W R ρ) := fun {M' P' dl' ρ S} _ e _ _ _ R => ex_nx e
  have inL_ : ∀ x ∈ L, x ∈ dl.map (·.1) := fun x hx => hperm.mem_iff.mp hx
  have hcap : dl.length < cap := show dl.length < 100000 by omega
  -- the if, whole
  suffices hif : ∃ M' P' dl' ρ, Hd 29 dl' ∧ ρ[0]? = some (some (0, D.int M')) ∧ ρ[1]? = some (some (0, D.int P')) ∧ ρ[2]? = some (some (1, dD dl')) ∧ ∃ S R, d_law_bent.body = .cons (.set 2 (.blt .dict (.var 2))) (.cons (.set 4 (.blt .sorted (.var 2))) (.cons (.set 5 (.bin .mod (.var 3) (.int 7))) (.cons S R))) ∧ R = .cons (.ret (.tup (.cons (.var 0) (.cons (.var 1) (.cons (.var 2) .nil))))) .nil ∧ PV.exec (CC 4) G W S (bnE M P c dl L (c % 7) none none none none none) = some (.nx ρ) by
    obtain ⟨M', P', dl', ρ, hd, g0, g1, g2, S, R, hb, rfl, hS⟩ := hif
    refine ⟨M', P', dl', hd, run_rt ?_⟩
    rw [hb]
    exact (ex_nx s1).trans ((ex_nx s2).trans ((ex_nx s3).trans ((ex_nx hS).trans (fin g0 g1 g2))))
  -- else: all hands turned round
  have els : ∃ dl' y8, Hd 29 dl' ∧ PV.exec (CC 4) G W (.cons (.for_ (.one 8) (.itr (.var 4)) bnB) .nil) (bnE M P c dl L (c % 7) none none none none none) = some (.nx [some (0, .int M), some (0, .int P), some (1, dD dl'), some (0, .int c), some (0, txts L), some (0, .int (c % 7)), none, none, y8, none, none]) := by
    obtain ⟨dl', y8, i1, i2, i3⟩ := bn_loop (C := CC 4) (M := M) (P := P) (c := c) (kd := c % 7) (L := L) L dl none (.inl rfl) h29 inL_
    exact ⟨dl', y8, i1, (ex_nx ((ex_for (ds := L.map D.str) rfl rfl).trans i3)).trans ex_nil⟩
  obtain ⟨dlE, y8, hdE, eE⟩ := els
  by_cases hn : L = []
  · -- no names
    have k0 := kE2 0
    have k1 := kE2 1
    have k5 := kE2 5
    rw [decide_eq_true hn, Bool.not_true, Bool.and_false] at k0 k1 k5
    by_cases c2 : c % 7 = 2
    · have k2 := kE1 2
      rw [decide_eq_true c2] at k2
      refine ⟨M, P, putI dl "zz" 0, _, h.more (.inr rfl) 0, rfl, rfl, rfl, _, _, rfl, rfl, (ex_false k0).trans ((ex_nx ((ex_false k1).trans ((ex_nx ((ex_true k2).trans ((ex_nx (ex_seti (i := 2) (k := 0) (k2 := 0) (d := .int 0) (y := .str "zz") (d0 := dD dl) (evS_ns rfl rfl) (evS_ns rfl rfl) rfl (put_any "zz" 0 hcap))).trans ex_nil))).trans ex_nil))).trans ex_nil)⟩
    · have k2 := kE1 2
      rw [decide_eq_false c2] at k2
      by_cases c3 : c % 7 = 3
      · have k3 := kE1 3
        rw [decide_eq_true c3] at k3
        refine ⟨M, c / 7 % 24 - 1, dl, _, h29, rfl, rfl, rfl, _, _, rfl, rfl, (ex_false k0).trans ((ex_nx ((ex_false k1).trans ((ex_nx ((ex_false k2).trans ((ex_nx ((ex_true k3).trans ((ex_nx (ex_set (i := 1) (k := 0) (d := .int (c / 7 % 24 - 1)) (evS_ns ?_ rfl))).trans ex_nil))).trans ex_nil))).trans ex_nil))).trans ex_nil)⟩
        show ev (CC 4) G _ [some (.int M), some (.int P), none, some (.int c), none, some (.int (c % 7)), none, none, none, none, none] = _
        simp only [ev, List.getElem?_cons_zero, List.getElem?_cons_succ, fdiv_c _ 7 (by decide), mod_c _ 24 (by decide), sub_c]
      · have k3 := kE1 3
        rw [decide_eq_false c3] at k3
        by_cases c4 : c % 7 = 4
        · have k4 := kE1 4
          rw [decide_eq_true c4] at k4
          refine ⟨M + 1 - 2 * (c / 7 % 2), P, dl, _, h29, rfl, rfl, rfl, _, _, rfl, rfl, (ex_false k0).trans ((ex_nx ((ex_false k1).trans ((ex_nx ((ex_false k2).trans ((ex_nx ((ex_false k3).trans ((ex_nx ((ex_true k4).trans ((ex_nx (ex_set (i := 0) (k := 0) (d := .int (M + 1 - 2 * (c / 7 % 2))) (evS_ns ?_ rfl))).trans ex_nil))).trans ex_nil))).trans ex_nil))).trans ex_nil))).trans ex_nil)⟩
          show ev (CC 4) G _ [some (.int M), some (.int P), none, some (.int c), none, some (.int (c % 7)), none, none, none, none, none] = _
          have hm : binD .mul (.int 2) (.int (c / 7 % 2)) = some (0, .int (2 * (c / 7 % 2))) := by
            show (if (-(2 ^ 64) < (2 : Int) ∧ (2 : Int) < 2 ^ 64) ∨ (-(2 ^ 64) < c / 7 % 2 ∧ c / 7 % 2 < 2 ^ 64) then some (0, D.int (2 * (c / 7 % 2))) else none) = _
            rw [if_pos (.inl (by decide))]
          simp only [ev, List.getElem?_cons_zero, List.getElem?_cons_succ, fdiv_c _ 7 (by decide), mod_c _ 2 (by decide), hm, add_c, sub_c]
        · have k4 := kE1 4
          rw [decide_eq_false c4] at k4
          exact ⟨M, P, dlE, _, hdE, rfl, rfl, rfl, _, _, rfl, rfl, (ex_false k0).trans ((ex_nx ((ex_false k1).trans ((ex_nx ((ex_false k2).trans ((ex_nx ((ex_false k3).trans ((ex_nx ((ex_false k4).trans ((ex_nx ((ex_false k5).trans eE)).trans ex_nil))).trans ex_nil))).trans ex_nil))).trans ex_nil))).trans ex_nil)⟩
  · -- names
    have k0 := kE2 0
    have k1 := kE2 1
    have k5 := kE2 5
    rw [decide_eq_false hn, Bool.not_false, Bool.and_true] at k0 k1 k5
    by_cases c0 : c % 7 = 0
    · rw [decide_eq_true c0] at k0
      obtain ⟨x, hx, ex⟩ := pick_ok (C := CC 4) (c := c) (L := L) (ρ := [some (.int M), some (.int P), none, some (.int c), some (txts L), some (.int (c % 7)), none, none, none, none, none]) 7 (by decide) hn rfl rfl
      refine ⟨M, P, putI dl x (c / 200 % (M + 1)), _, h29.put (inL_ x hx) _, rfl, rfl, rfl, _, _, rfl, rfl, (ex_true k0).trans ((ex_nx (ex_seti (i := 2) (k := 0) (k2 := 0) (d := .int (c / 200 % (M + 1))) (y := .str x) (d0 := dD dl) (evS_ns ?_ rfl) (evS_ns ex rfl) rfl (put_any x _ hcap))).trans ex_nil)⟩
      show ev (CC 4) G _ [some (.int M), some (.int P), none, some (.int c), none, some (.int (c % 7)), none, none, none, none, none] = _
      simp only [ev, List.getElem?_cons_zero, List.getElem?_cons_succ, fdiv_c _ 200 (by decide), add_c, mod_c _ (M + 1) (by omega)]
    · rw [decide_eq_false c0] at k0
      by_cases c1 : c % 7 = 1
      · rw [decide_eq_true c1] at k1
        obtain ⟨x, hx, ex⟩ := pick_ok (C := CC 4) (c := c) (L := L) (ρ := [some (.int M), some (.int P), none, some (.int c), some (txts L), some (.int (c % 7)), none, none, none, none, none]) 7 (by decide) hn rfl rfl
        obtain ⟨v, hv⟩ := pop_dD (inL_ x hx)
        exact ⟨M, P, dl.filter fun p => decide (p.1 ≠ x), _, h29.drop x, rfl, rfl, rfl, _, _, rfl, rfl, (ex_false k0).trans ((ex_nx ((ex_true k1).trans ((ex_nx (ex_popd (i := 2) (kvs0 := dl.map kvI) (k := 0) (y := .str x) (d0 := dD dl) rfl (evS_ns ex rfl) rfl hv)).trans ex_nil))).trans ex_nil)⟩
      · rw [decide_eq_false c1] at k1
        by_cases c2 : c % 7 = 2
        · have k2 := kE1 2
          rw [decide_eq_true c2] at k2
          exact ⟨M, P, putI dl "zz" 0, _, h.more (.inr rfl) 0, rfl, rfl, rfl, _, _, rfl, rfl, (ex_false k0).trans ((ex_nx ((ex_false k1).trans ((ex_nx ((ex_true k2).trans ((ex_nx (ex_seti (i := 2) (k := 0) (k2 := 0) (d := .int 0) (y := .str "zz") (d0 := dD dl) (evS_ns rfl rfl) (evS_ns rfl rfl) rfl (put_any "zz" 0 hcap))).trans ex_nil))).trans ex_nil))).trans ex_nil)⟩
        · have k2 := kE1 2
          rw [decide_eq_false c2] at k2
          by_cases c3 : c % 7 = 3
          · have k3 := kE1 3
            rw [decide_eq_true c3] at k3
            refine ⟨M, c / 7 % 24 - 1, dl, _, h29, rfl, rfl, rfl, _, _, rfl, rfl, (ex_false k0).trans ((ex_nx ((ex_false k1).trans ((ex_nx ((ex_false k2).trans ((ex_nx ((ex_true k3).trans ((ex_nx (ex_set (i := 1) (k := 0) (d := .int (c / 7 % 24 - 1)) (evS_ns ?_ rfl))).trans ex_nil))).trans ex_nil))).trans ex_nil))).trans ex_nil)⟩
            show ev (CC 4) G _ [some (.int M), some (.int P), none, some (.int c), none, some (.int (c % 7)), none, none, none, none, none] = _
            simp only [ev, List.getElem?_cons_zero, List.getElem?_cons_succ, fdiv_c _ 7 (by decide), mod_c _ 24 (by decide), sub_c]
          · have k3 := kE1 3
            rw [decide_eq_false c3] at k3
            by_cases c4 : c % 7 = 4
            · have k4 := kE1 4
              rw [decide_eq_true c4] at k4
              refine ⟨M + 1 - 2 * (c / 7 % 2), P, dl, _, h29, rfl, rfl, rfl, _, _, rfl, rfl, (ex_false k0).trans ((ex_nx ((ex_false k1).trans ((ex_nx ((ex_false k2).trans ((ex_nx ((ex_false k3).trans ((ex_nx ((ex_true k4).trans ((ex_nx (ex_set (i := 0) (k := 0) (d := .int (M + 1 - 2 * (c / 7 % 2))) (evS_ns ?_ rfl))).trans ex_nil))).trans ex_nil))).trans ex_nil))).trans ex_nil))).trans ex_nil)⟩
              show ev (CC 4) G _ [some (.int M), some (.int P), none, some (.int c), none, some (.int (c % 7)), none, none, none, none, none] = _
              have hm : binD .mul (.int 2) (.int (c / 7 % 2)) = some (0, .int (2 * (c / 7 % 2))) := by
                show (if (-(2 ^ 64) < (2 : Int) ∧ (2 : Int) < 2 ^ 64) ∨ (-(2 ^ 64) < c / 7 % 2 ∧ c / 7 % 2 < 2 ^ 64) then some (0, D.int (2 * (c / 7 % 2))) else none) = _
                rw [if_pos (.inl (by decide))]
              simp only [ev, List.getElem?_cons_zero, List.getElem?_cons_succ, fdiv_c _ 7 (by decide), mod_c _ 2 (by decide), hm, add_c, sub_c]
            · have k4 := kE1 4
              rw [decide_eq_false c4] at k4
              by_cases c5 : c % 7 = 5
              · rw [decide_eq_true c5] at k5
                obtain ⟨x, hx, ex⟩ := pick_ok (C := CC 4) (c := c) (L := L) (ρ := [some (.int M), some (.int P), none, some (.int c), some (txts L), some (.int (c % 7)), none, none, none, none, none]) 7 (by decide) hn rfl rfl
                obtain ⟨y, hy, ey⟩ := pick_ok (C := CC 4) (c := c) (L := L) (ρ := [some (.int M), some (.int P), none, some (.int c), some (txts L), some (.int (c % 7)), some (.str x), none, none, none, none]) 200 (by decide) hn rfl rfl
                have hxk := inL_ x hx
                have hyk := inL_ y hy
                have hk2 := putI_keys dl x (handOf dl y)
                rw [if_pos hxk] at hk2
                have q1 : ev (CC 4) G (.idx (.var 2) (.var 6)) [some (.int M), some (.int P), some (dD dl), some (.int c), none, some (.int (c % 7)), some (.str x), some (.str y), none, none, none] = some (0, .int (handOf dl x)) := by
                  simp only [ev, List.getElem?_cons_zero, List.getElem?_cons_succ, idx_hand hxk, Option.map_some]
                have q2 : ev (CC 4) G (.idx (.var 2) (.var 7)) [some (.int M), some (.int P), some (dD dl), some (.int c), none, some (.int (c % 7)), some (.str x), some (.str y), none, none, none] = some (0, .int (handOf dl y)) := by
                  simp only [ev, List.getElem?_cons_zero, List.getElem?_cons_succ, idx_hand hyk, Option.map_some]
                have w1 : PV.exec (CC 4) G W (.set 6 (.idx (.var 4) (.bin .mod (.bin .fdiv (.var 3) (.int 7)) (.blt .len (.var 4))))) (bnE M P c dl L (c % 7) none none none none none) = some (.nx (bnE M P c dl L (c % 7) (some (0, .str x)) none none none none)) := (ex_set (k := 0) (d := .str x) (evS_ns ex rfl)).trans rfl
                have w2 : PV.exec (CC 4) G W (.set 7 (.idx (.var 4) (.bin .mod (.bin .fdiv (.var 3) (.int 200)) (.blt .len (.var 4))))) (bnE M P c dl L (c % 7) (some (0, .str x)) none none none none) = some (.nx (bnE M P c dl L (c % 7) (some (0, .str x)) (some (0, .str y)) none none none)) := (ex_set (k := 0) (d := .str y) (evS_ns ey rfl)).trans rfl
                have w3 : PV.exec (CC 4) G W (.par 9 10 (.idx (.var 2) (.var 6)) (.idx (.var 2) (.var 7))) (bnE M P c dl L (c % 7) (some (0, .str x)) (some (0, .str y)) none none none) = some (.nx (bnE M P c dl L (c % 7) (some (0, .str x)) (some (0, .str y)) none (some (0, .int (handOf dl x))) (some (0, .int (handOf dl y))))) := (ex_par (k := 0) (k2 := 0) (evS_ns q1 rfl) (evS_ns q2 rfl)).trans rfl
                have w4 : PV.exec (CC 4) G W (.seti 2 (.var 6) (.var 10)) (bnE M P c dl L (c % 7) (some (0, .str x)) (some (0, .str y)) none (some (0, .int (handOf dl x))) (some (0, .int (handOf dl y)))) = some (.nx (bnE M P c (putI dl x (handOf dl y)) L (c % 7) (some (0, .str x)) (some (0, .str y)) none (some (0, .int (handOf dl x))) (some (0, .int (handOf dl y))))) := (ex_seti (i := 2) (k := 0) (k2 := 0) (d := .int (handOf dl y)) (y := .str x) (d0 := dD dl) (evS_ns rfl rfl) (evS_ns rfl rfl) rfl (put_any x _ hcap)).trans rfl
                have hl2 := (h29.put hxk (handOf dl y)).len
                have w5 : PV.exec (CC 4) G W (.seti 2 (.var 7) (.var 9)) (bnE M P c (putI dl x (handOf dl y)) L (c % 7) (some (0, .str x)) (some (0, .str y)) none (some (0, .int (handOf dl x))) (some (0, .int (handOf dl y)))) = some (.nx (bnE M P c (putI (putI dl x (handOf dl y)) y (handOf dl x)) L (c % 7) (some (0, .str x)) (some (0, .str y)) none (some (0, .int (handOf dl x))) (some (0, .int (handOf dl y))))) := (ex_seti (i := 2) (k := 0) (k2 := 0) (d := .int (handOf dl x)) (y := .str y) (d0 := dD (putI dl x (handOf dl y))) (evS_ns rfl rfl) (evS_ns rfl rfl) rfl (put_any y _ (show _ < 100000 by omega))).trans rfl
                exact ⟨M, P, putI (putI dl x (handOf dl y)) y (handOf dl x), _, (h29.put hxk _).put (by rw [hk2]; exact hyk) _, rfl, rfl, rfl, _, _, rfl, rfl, (ex_false k0).trans ((ex_nx ((ex_false k1).trans ((ex_nx ((ex_false k2).trans ((ex_nx ((ex_false k3).trans ((ex_nx ((ex_false k4).trans ((ex_nx ((ex_true k5).trans ((ex_nx w1).trans ((ex_nx w2).trans ((ex_nx w3).trans ((ex_nx w4).trans ((ex_nx w5).trans ex_nil))))))).trans ex_nil))).trans ex_nil))).trans ex_nil))).trans ex_nil))).trans ex_nil)⟩
              · rw [decide_eq_false c5] at k5
                exact ⟨M, P, dlE, _, hdE, rfl, rfl, rfl, _, _, rfl, rfl, (ex_false k0).trans ((ex_nx ((ex_false k1).trans ((ex_nx ((ex_false k2).trans ((ex_nx ((ex_false k3).trans ((ex_nx ((ex_false k4).trans ((ex_nx ((ex_false k5).trans eE)).trans ex_nil))).trans ex_nil))).trans ex_nil))).trans ex_nil))).trans ex_nil)⟩
end K9

set_option Elab.async false
set_option linter.all false
set_option maxRecDepth 100000
set_option maxHeartbeats 4000000
/-! k09, part Xk: the law, whole, over data. -/
namespace K9
open PySem PySem.Spec PyProof.Rows L2 PV
abbrev zz3 : Str × Int := ("zzz", 0)
theorem few_kw2 {rs : List Rw} {dt dl : D} : CC 5 (.fn "fewest") [rowsD rs] ["takes", "last"] [dt, dl] = runD (CC 4) G W d_fewest [rowsD rs, dt, dl] := rfl
theorem eqd_bl (b : Bool) : eqD (.bl b) (.bl b) = some true := by cases b <;> with_unfolding_all rfl
theorem dicE_self {dl : Dl} (nd : (dl.map (·.1)).Nodup) : dicE (dD dl) (dD dl) = true := by
  show (decide ((dl.map kvI).length = (dl.map kvI).length) && (dl.map kvI).all fun p => match valD (dl.map kvI) p.1 with | some d => sameF p.2 d | none => false) = true
  rw [decide_eq_true rfl, Bool.true_and, List.all_eq_true]
  intro p hp
  obtain ⟨q, hq, rfl⟩ := List.mem_map.mp hp
  have := val_dD dl q.1
  rw [hv_of_mem nd hq] at this
  have e : valD (dl.map kvI) (kvI q).1 = some (.int q.2) := this
  rw [e]
  show (q.2 == q.2) = true
  simp
theorem fldD {C : CT} {ρ : Ro} {i : Nat} {M P : Int} {dl : Dl} (h : ρ[i]? = some (some (insF M P dl))) : ev C G (.fld (.var i) "many") ρ = some (0, .int M) ∧ ev C G (.fld (.var i) "place") ρ = some (0, .int P) ∧ ev C G (.fld (.var i) "dealt") ρ = some (0, dD dl) := by
  refine ⟨?_, ?_, ?_⟩ <;> (simp only [ev, h, insF]; with_unfolding_all rfl)
abbrev Old3 (x2 x6 x7 x8 x9 x10 x11 x12 : Option (Nat × D)) : Prop := (x2 = none ∧ x6 = none ∧ x7 = none ∧ x8 = none ∧ x9 = none ∧ x10 = none ∧ x11 = none ∧ x12 = none) ∨ ∃ a b c d e f g h, x2 = some (0, a) ∧ x6 = some (1, b) ∧ x7 = some (2, c) ∧ x8 = some (0, d) ∧ x9 = some (0, e) ∧ x10 = some (0, f) ∧ x11 = some (0, g) ∧ x12 = some (0, h)
abbrev lwE (ns : List Int) (x1 : Nat × D) (rs : List Rw) (tk ls : List Str) (x2 x6 x7 x8 x9 x10 x11 x12 : Option (Nat × D)) : PV.Env := [some (0, .rol ns), some x1, x2, some (0, rowsD rs), some (0, txts tk), some (0, txts ls), x6, x7, x8, x9, x10, x11, x12]
abbrev showE : Exp := .meth (.var 7) "shows" (.cons (.var 3) .nil) ["takes", "last"] (.cons (.var 4) (.cons (.var 5) .nil))
abbrev handB : Sta := (.cons (.unp [10, 11, 12] (.call "_law_bent" (.cons (.fld (.var 1) "many") (.cons (.fld (.var 1) "place") (.cons (.fld (.var 1) "dealt") (.cons (.bin .add (.bin .mul (.int 7) (.call "_law_cell_at" (.cons (.var 0) (.cons (.bin .add (.int 26) (.var 2)) .nil)) [] .nil)) (.var 2)) .nil)))) [] .nil))
    (.cons (.set 6 (.blt .dict (.var 12)))
    (.cons (.set 7 (.call "Fewest" (.cons (.var 10) (.cons (.var 11) (.cons (.var 6) .nil))) [] .nil))
    (.cons (.clr 6)
    (.cons (.set 8 (.call "_law_due" (.cons (.var 3) (.cons (.var 4) (.cons (.var 5) (.cons (.var 10) (.cons (.var 11) (.cons (.var 12) .nil)))))) [] .nil))
    (.cons (.set 9 showE)
    (.cons (.ite (.or_ (.nett (.tup (.cons (.fld (.var 7) "many") (.cons (.fld (.var 7) "place") (.cons (.fld (.var 7) "dealt") .nil)))) (.tup (.cons (.var 10) (.cons (.var 11) (.cons (.var 12) .nil))))) (.nt (.isC "Answer" (.var 7)))) (.cons (.ret (.bl false))
    .nil) .nil)
    (.cons (.ite (.or_ (.nt (.blt .isbool (.var 9))) (.cmp .ne (.var 9) (.var 8))) (.cons (.ret (.bl false))
    .nil) .nil)
    (.cons (.setf 7 "dealt" "zzz" 0)
    (.cons (.ite (.cmp .isnot showE (.bl false)) (.cons (.ret (.bl false))
    .nil) .nil)
    .nil))))))))))
theorem ex_clr {C : CT} {w i : Nat} {ρ : PV.Env} {kvs : List (Key × D)} (h : ρ[i]? = some (some (1, .dic kvs))) : PV.exec C G w (.clr i) ρ = some (.nx (ρ.set i (some (1, .dic [])))) := by
  show (match ρ[i]? with
    | some (some (1, .dic _)) => some (Out.nx (ρ.set i (some (1, .dic []))))
    | _ => none) = _
  simp only [h]
theorem ex_setf {C : CT} {w i : Nat} {f k : Str} {v : Int} {ρ : PV.Env} {d d' : D} (h : ρ[i]? = some (some (2, d))) (h2 : putF2 G d f k v = some d') : PV.exec C G w (.setf i f k v) ρ = some (.nx (ρ.set i (some (2, d')))) := by
  show (match ρ[i]? with
    | some (some (2, d)) => match putF2 G d f k v with
      | some d' => some (Out.nx (ρ.set i (some (2, d'))))
      | none => none
    | _ => none) = _
  simp only [h, h2]
theorem put_zzz {M P : Int} {dl : Dl} (h : ("zzz" : Str) ∉ dl.map (·.1)) (hl : dl.length < cap) : putF2 G (insF M P dl) "dealt" "zzz" 0 = some (insF M P (dl ++ [zz3])) := by
  have hp : putD (dl.map kvI) (.inr "zzz" : Key) (.int 0) = (dl ++ [zz3]).map kvI := by
    unfold putD
    rw [if_neg]
    · rw [List.map_append]; rfl
    · intro z
      obtain ⟨q, q1, q2⟩ := List.any_eq_true.mp z
      obtain ⟨p, p1, rfl⟩ := List.mem_map.mp q1
      have w : (Sum.inr p.1 : Key) = .inr "zzz" := of_decide_eq_true q2
      exact h (List.mem_map.mpr ⟨p, p1, Sum.inr.inj w⟩)
  have hv : valD [(("many" : Str), D.int M), ("place", .int P), ("dealt", dD dl)] "dealt" = some (.dic (dl.map kvI)) := by with_unfolding_all rfl
  have hn : decide (([(("many" : Str), D.int M), ("place", .int P), ("dealt", dD dl)].map (·.1)).Nodup) = true := by
    show decide ([("many" : Str), "place", "dealt"].Nodup) = true
    decide +kernel
  show (if G.fld "Fewest" "dealt" = true ∧ decide (([(("many" : Str), D.int M), ("place", .int P), ("dealt", dD dl)].map (·.1)).Nodup) = true then match valD [(("many" : Str), D.int M), ("place", .int P), ("dealt", dD dl)] "dealt" with
      | some (.dic kvs) => if kvs.length < cap then some (D.ins "Fewest" ([(("many" : Str), D.int M), ("place", .int P), ("dealt", dD dl)].map fun p : Str × D => if p.1 = ("dealt" : Str) then (p.1, .dic (putD kvs (.inr "zzz") (.int 0))) else p)) else none
      | _ => none
    else none) = _
  rw [if_pos ⟨by decide +kernel, hn⟩, hv]
  dsimp only
  rw [if_pos (by rw [List.length_map]; exact hl), hp]
  with_unfolding_all rfl
theorem zzz_out : ("zzz" : Str) ∉ pool ∧ ("zzz" : Str) ≠ "zz" := by decide +kernel
theorem lay_zzz : Lay "zzz" := by decide +kernel
section
variable {ns : List Int} {M P : Int} {dl : Dl} {rs : List Rw} {tk ls : List Str} {k1 : Nat}
theorem hand_turn (h : Right rs tk ls) (hM : 0 ≤ M) (hd : Hd 28 dl) {i : Nat} {x2 x6 x7 x8 x9 x10 x11 x12 : Option (Nat × D)} (ho : Old3 x2 x6 x7 x8 x9 x10 x11 x12) :
    ∃ b c d e f g j, PV.exec (CC 5) G W handB (lwE ns (k1, insF M P dl) rs tk ls (some (0, .int (i : Nat))) x6 x7 x8 x9 x10 x11 x12) = some (.nx (lwE ns (0, insF M P dl) rs tk ls (some (0, .int (i : Nat))) (some (1, b)) (some (2, c)) (some (0, d)) (some (0, e)) (some (0, f)) (some (0, g)) (some (0, j)))) := by
  obtain ⟨cl, hc⟩ := cell_ok 4 ns (26 + i)
  obtain ⟨M', P', dl', hd', hb⟩ := bent_ok (P := P) (c := 7 * cl + (i : Nat)) hM hd
  have hlen' : dl'.length < 64 := by have := hd'.len; omega
  have z' : ("zzz" : Str) ∉ dl'.map (·.1) := fun z => by
    rcases hd'.ks _ z with q | q
    · exact zzz_out.1 q
    · exact zzz_out.2 q
  -- bent
  have t1 : PV.exec (CC 5) G W (.unp [10, 11, 12] (.call "_law_bent" (.cons (.fld (.var 1) "many") (.cons (.fld (.var 1) "place") (.cons (.fld (.var 1) "dealt") (.cons (.bin .add (.bin .mul (.int 7) (.call "_law_cell_at" (.cons (.var 0) (.cons (.bin .add (.int 26) (.var 2)) .nil)) [] .nil)) (.var 2)) .nil)))) [] .nil)) (lwE ns (k1, insF M P dl) rs tk ls (some (0, .int (i : Nat))) x6 x7 x8 x9 x10 x11 x12) = some (.nx (lwE ns (0, insF M P dl) rs tk ls (some (0, .int (i : Nat))) x6 x7 x8 x9 (some (0, .int M')) (some (0, .int P')) (some (0, dD dl')))) := by
    have e : ∀ z6 z7 z8 z9 z10 z11 z12 : Option D, ev (CC 5) G (.call "_law_bent" (.cons (.fld (.var 1) "many") (.cons (.fld (.var 1) "place") (.cons (.fld (.var 1) "dealt") (.cons (.bin .add (.bin .mul (.int 7) (.call "_law_cell_at" (.cons (.var 0) (.cons (.bin .add (.int 26) (.var 2)) .nil)) [] .nil)) (.var 2)) .nil)))) [] .nil) [some (.rol ns), some (insF M P dl), some (.int (i : Nat)), some (rowsD rs), some (txts tk), some (txts ls), z6, z7, z8, z9, z10, z11, z12] = some (0, .tup [.int M', .int P', dD dl']) := fun z6 z7 z8 z9 z10 z11 z12 => by
      obtain ⟨f1, f2, f3⟩ := fldD (C := CC 5) (M := M) (P := P) (dl := dl) (i := 1) (ρ := [some (.rol ns), some (insF M P dl), some (.int (i : Nat)), some (rowsD rs), some (txts tk), some (txts ls), z6, z7, z8, z9, z10, z11, z12]) rfl
      have hc' : CC 5 (.fn "_law_cell_at") [.rol ns, .int (26 + (i : Nat))] [] [] = some (0, .int cl) := by
        rw [show (26 : Int) + (i : Nat) = ((26 + i : Nat) : Int) by omega]; exact hc
      have hm : binD .mul (.int 7) (.int cl) = some (0, .int (7 * cl)) := by
        show (if (-(2 ^ 64) < (7 : Int) ∧ (7 : Int) < 2 ^ 64) ∨ (-(2 ^ 64) < cl ∧ cl < 2 ^ 64) then some (0, D.int (7 * cl)) else none) = _
        rw [if_pos (.inl (by decide))]
      have e4 : ev (CC 5) G (.bin .add (.bin .mul (.int 7) (.call "_law_cell_at" (.cons (.var 0) (.cons (.bin .add (.int 26) (.var 2)) .nil)) [] .nil)) (.var 2)) [some (.rol ns), some (insF M P dl), some (.int (i : Nat)), some (rowsD rs), some (txts tk), some (txts ls), z6, z7, z8, z9, z10, z11, z12] = some (0, .int (7 * cl + (i : Nat))) := by
        simp only [ev, evs, List.getElem?_cons_zero, List.getElem?_cons_succ, add_c, hc', hm]
      rw [ev]
      simp only [evs, f1, f2, f3, e4]
      exact hb
    refine (ex_unp (k := 0) (ds := [.int M', .int P', dD dl']) (evS_fz (k := 0) ?_ rfl) rfl).trans ?_
    · rcases ho with ⟨rfl, rfl, rfl, rfl, rfl, rfl, rfl, rfl⟩ | ⟨_, _, _, _, _, _, _, _, rfl, rfl, rfl, rfl, rfl, rfl, rfl, rfl⟩
      · show ev (CC 5) G _ [some (.rol ns), (if k1 = 0 ∨ 1 ∈ _ then some (insF M P dl) else none), some (.int (i : Nat)), some (rowsD rs), some (txts tk), some (txts ls), none, none, none, none, none, none, none] = _
        rw [if_pos (.inr (by decide))]
        exact e _ _ _ _ _ _ _
      · show ev (CC 5) G _ [some (.rol ns), (if k1 = 0 ∨ 1 ∈ _ then some (insF M P dl) else none), some (.int (i : Nat)), some (rowsD rs), some (txts tk), some (txts ls), none, none, some _, some _, some _, some _, some _] = _
        rw [if_pos (.inr (by decide))]
        exact e _ _ _ _ _ _ _
    · rcases ho with ⟨rfl, rfl, rfl, rfl, rfl, rfl, rfl, rfl⟩ | ⟨_, _, _, _, _, _, _, _, rfl, rfl, rfl, rfl, rfl, rfl, rfl, rfl⟩ <;> rfl
  have t2 : PV.exec (CC 5) G W (.set 6 (.blt .dict (.var 12))) (lwE ns (0, insF M P dl) rs tk ls (some (0, .int (i : Nat))) x6 x7 x8 x9 (some (0, .int M')) (some (0, .int P')) (some (0, dD dl'))) = some (.nx (lwE ns (0, insF M P dl) rs tk ls (some (0, .int (i : Nat))) (some (1, dD dl')) x7 x8 x9 (some (0, .int M')) (some (0, .int P')) (some (0, dD dl')))) := by
    refine (ex_set (k := 1) (d := dD dl') (evS_ns ?_ (nosh_dD _))).trans rfl
    rcases ho with ⟨rfl, rfl, rfl, rfl, rfl, rfl, rfl, rfl⟩ | ⟨_, _, _, _, _, _, _, _, rfl, rfl, rfl, rfl, rfl, rfl, rfl, rfl⟩ <;> rfl
  have t3 : PV.exec (CC 5) G W (.set 7 (.call "Fewest" (.cons (.var 10) (.cons (.var 11) (.cons (.var 6) .nil))) [] .nil)) (lwE ns (0, insF M P dl) rs tk ls (some (0, .int (i : Nat))) (some (1, dD dl')) x7 x8 x9 (some (0, .int M')) (some (0, .int P')) (some (0, dD dl'))) = some (.nx (lwE ns (0, insF M P dl) rs tk ls (some (0, .int (i : Nat))) (some (1, dD dl')) (some (2, insF M' P' dl')) x8 x9 (some (0, .int M')) (some (0, .int P')) (some (0, dD dl')))) := by
    have e : ∀ z7 z8 z9 : Option D, ev (CC 5) G (.call "Fewest" (.cons (.var 10) (.cons (.var 11) (.cons (.var 6) .nil))) [] .nil) [some (.rol ns), some (insF M P dl), some (.int (i : Nat)), some (rowsD rs), some (txts tk), some (txts ls), some (dD dl'), z7, z8, z9, some (.int M'), some (.int P'), some (dD dl')] = some (2, insF M' P' dl') := fun z7 z8 z9 => by
      simp only [ev, evs, List.getElem?_cons_zero, List.getElem?_cons_succ]
      exact make_ok 3 M' P' dl'
    refine (ex_set (k := 2) (d := insF M' P' dl') (evS_ns ?_ (nosh_insF _ _ _))).trans rfl
    rcases ho with ⟨rfl, rfl, rfl, rfl, rfl, rfl, rfl, rfl⟩ | ⟨_, _, _, _, _, _, _, _, rfl, rfl, rfl, rfl, rfl, rfl, rfl, rfl⟩
    · exact e _ _ _
    · exact e _ _ _
  have t4 : PV.exec (CC 5) G W (.clr 6) (lwE ns (0, insF M P dl) rs tk ls (some (0, .int (i : Nat))) (some (1, dD dl')) (some (2, insF M' P' dl')) x8 x9 (some (0, .int M')) (some (0, .int P')) (some (0, dD dl'))) = some (.nx (lwE ns (0, insF M P dl) rs tk ls (some (0, .int (i : Nat))) (some (1, .dic [])) (some (2, insF M' P' dl')) x8 x9 (some (0, .int M')) (some (0, .int P')) (some (0, dD dl')))) :=
    (ex_clr (i := 6) (kvs := dl'.map kvI) rfl).trans rfl
  obtain ⟨bb, hbb⟩ : ∃ bb, bb = dueP (tk ++ setsL rs) rs.length (lawAt rs tk ls) M' P' dl' := ⟨_, rfl⟩
  have hsh := shows_ok (M := M') (P := P') (dl := dl') h (Nms.lst tk) (Nms.lst ls) hd'.lay hlen'
  have hdu := due_ok (M := M') (P := P') (dl := dl') h hd'.lay hd'.nd hlen'
  rw [← hbb] at hsh hdu
  have t5 : PV.exec (CC 5) G W (.set 8 (.call "_law_due" (.cons (.var 3) (.cons (.var 4) (.cons (.var 5) (.cons (.var 10) (.cons (.var 11) (.cons (.var 12) .nil)))))) [] .nil)) (lwE ns (0, insF M P dl) rs tk ls (some (0, .int (i : Nat))) (some (1, .dic [])) (some (2, insF M' P' dl')) x8 x9 (some (0, .int M')) (some (0, .int P')) (some (0, dD dl'))) = some (.nx (lwE ns (0, insF M P dl) rs tk ls (some (0, .int (i : Nat))) (some (1, .dic [])) (some (2, insF M' P' dl')) (some (0, .bl bb)) x9 (some (0, .int M')) (some (0, .int P')) (some (0, dD dl')))) := by
    have e : ∀ z6 z7 z8 z9 : Option D, ev (CC 5) G (.call "_law_due" (.cons (.var 3) (.cons (.var 4) (.cons (.var 5) (.cons (.var 10) (.cons (.var 11) (.cons (.var 12) .nil)))))) [] .nil) [some (.rol ns), some (insF M P dl), some (.int (i : Nat)), some (rowsD rs), some (txts tk), some (txts ls), z6, z7, z8, z9, some (.int M'), some (.int P'), some (dD dl')] = some (0, .bl bb) := fun z6 z7 z8 z9 => by
      simp only [ev, evs, List.getElem?_cons_zero, List.getElem?_cons_succ]
      exact hdu
    refine (ex_set (k := 0) (d := .bl bb) (evS_ns ?_ rfl)).trans rfl
    rcases ho with ⟨rfl, rfl, rfl, rfl, rfl, rfl, rfl, rfl⟩ | ⟨_, _, _, _, _, _, _, _, rfl, rfl, rfl, rfl, rfl, rfl, rfl, rfl⟩
    · exact e _ _ _ _
    · exact e _ _ _ _
  have shE : ∀ {M2 P2 : Int} {dl2 : Dl} {b2 : Bool} {ρ : Ro}, ρ[3]? = some (some (rowsD rs)) → ρ[4]? = some (some (txts tk)) → ρ[5]? = some (some (txts ls)) → ρ[7]? = some (some (insF M2 P2 dl2)) → CC 5 (.me "Fewest" "shows") [insF M2 P2 dl2, rowsD rs] ["takes", "last"] [txts tk, txts ls] = some (0, .bl b2) → ev (CC 5) G showE ρ = some (0, .bl b2) := fun {M2 P2 dl2 b2 ρ} g3 g4 g5 g7 hs => by
    have e2 : ev (CC 5) G (.var 7) ρ = some (0, .ins "Fewest" [("many", .int M2), ("place", .int P2), ("dealt", dD dl2)]) := by
      simp only [ev, g7]; rfl
    have ea : evs (CC 5) G (.cons (.var 3) .nil) ρ = some [rowsD rs] := by simp only [evs, ev, g3]
    have ew : evs (CC 5) G (.cons (.var 4) (.cons (.var 5) .nil)) ρ = some [txts tk, txts ls] := by simp only [evs, ev, g4, g5]
    rw [ev, e2, ea, ew]
    dsimp only
    exact (if_pos (by with_unfolding_all rfl)).trans hs
  have t6 : PV.exec (CC 5) G W (.set 9 showE) (lwE ns (0, insF M P dl) rs tk ls (some (0, .int (i : Nat))) (some (1, .dic [])) (some (2, insF M' P' dl')) (some (0, .bl bb)) x9 (some (0, .int M')) (some (0, .int P')) (some (0, dD dl'))) = some (.nx (lwE ns (0, insF M P dl) rs tk ls (some (0, .int (i : Nat))) (some (1, .dic [])) (some (2, insF M' P' dl')) (some (0, .bl bb)) (some (0, .bl bb)) (some (0, .int M')) (some (0, .int P')) (some (0, dD dl')))) := by
    refine (ex_set (k := 0) (d := .bl bb) (evS_ns ?_ rfl)).trans rfl
    rcases ho with ⟨rfl, rfl, rfl, rfl, rfl, rfl, rfl, rfl⟩ | ⟨_, _, _, _, _, _, _, _, rfl, rfl, rfl, rfl, rfl, rfl, rfl, rfl⟩
    · exact shE rfl rfl rfl rfl hsh
    · exact shE rfl rfl rfl rfl hsh
  have t7 : PV.exec (CC 5) G W (.ite (.or_ (.nett (.tup (.cons (.fld (.var 7) "many") (.cons (.fld (.var 7) "place") (.cons (.fld (.var 7) "dealt") .nil)))) (.tup (.cons (.var 10) (.cons (.var 11) (.cons (.var 12) .nil))))) (.nt (.isC "Answer" (.var 7)))) (.cons (.ret (.bl false)) .nil) .nil) (lwE ns (0, insF M P dl) rs tk ls (some (0, .int (i : Nat))) (some (1, .dic [])) (some (2, insF M' P' dl')) (some (0, .bl bb)) (some (0, .bl bb)) (some (0, .int M')) (some (0, .int P')) (some (0, dD dl'))) = some (.nx (lwE ns (0, insF M P dl) rs tk ls (some (0, .int (i : Nat))) (some (1, .dic [])) (some (2, insF M' P' dl')) (some (0, .bl bb)) (some (0, .bl bb)) (some (0, .int M')) (some (0, .int P')) (some (0, dD dl')))) := by
    refine (ex_false (evB_of (k := 0) (or_f ?_ ?_))).trans ex_nil
    · show ev (CC 5) G (.nett (.tup (.cons (.fld (.var 7) "many") (.cons (.fld (.var 7) "place") (.cons (.fld (.var 7) "dealt") .nil)))) (.tup (.cons (.var 10) (.cons (.var 11) (.cons (.var 12) .nil))))) [some (.rol ns), some (insF M P dl), some (.int (i : Nat)), some (rowsD rs), some (txts tk), some (txts ls), none, some (insF M' P' dl'), some (.bl bb), some (.bl bb), some (.int M'), some (.int P'), some (dD dl')] = _
      obtain ⟨f1, f2, f3⟩ := fldD (C := CC 5) (M := M') (P := P') (dl := dl') (i := 7) (ρ := [some (.rol ns), some (insF M P dl), some (.int (i : Nat)), some (rowsD rs), some (txts tk), some (txts ls), none, some (insF M' P' dl'), some (.bl bb), some (.bl bb), some (.int M'), some (.int P'), some (dD dl')]) rfl
      have ea : ev (CC 5) G (.tup (.cons (.fld (.var 7) "many") (.cons (.fld (.var 7) "place") (.cons (.fld (.var 7) "dealt") .nil)))) [some (.rol ns), some (insF M P dl), some (.int (i : Nat)), some (rowsD rs), some (txts tk), some (txts ls), none, some (insF M' P' dl'), some (.bl bb), some (.bl bb), some (.int M'), some (.int P'), some (dD dl')] = some (0, .tup [.int M', .int P', dD dl']) := by
        rw [ev]
        simp only [evs, f1, f2, f3]
        rfl
      have eb : ev (CC 5) G (.tup (.cons (.var 10) (.cons (.var 11) (.cons (.var 12) .nil)))) [some (.rol ns), some (insF M P dl), some (.int (i : Nat)), some (rowsD rs), some (txts tk), some (txts ls), none, some (insF M' P' dl'), some (.bl bb), some (.bl bb), some (.int M'), some (.int P'), some (dD dl')] = some (0, .tup [.int M', .int P', dD dl']) := rfl
      rw [ev, ea, eb]
      dsimp only
      have ht : tupE (.tup [.int M', .int P', dD dl']) (.tup [.int M', .int P', dD dl']) = true := by
        show (((M' == M') || false) && (((P' == P') || false) && ((sameF (dD dl') (dD dl') || dicE (dD dl') (dD dl')) && true))) = true
        rw [dicE_self hd'.nd]
        simp
      rw [if_pos ht]
    · with_unfolding_all rfl
  have t8 : PV.exec (CC 5) G W (.ite (.or_ (.nt (.blt .isbool (.var 9))) (.cmp .ne (.var 9) (.var 8))) (.cons (.ret (.bl false)) .nil) .nil) (lwE ns (0, insF M P dl) rs tk ls (some (0, .int (i : Nat))) (some (1, .dic [])) (some (2, insF M' P' dl')) (some (0, .bl bb)) (some (0, .bl bb)) (some (0, .int M')) (some (0, .int P')) (some (0, dD dl'))) = some (.nx (lwE ns (0, insF M P dl) rs tk ls (some (0, .int (i : Nat))) (some (1, .dic [])) (some (2, insF M' P' dl')) (some (0, .bl bb)) (some (0, .bl bb)) (some (0, .int M')) (some (0, .int P')) (some (0, dD dl')))) := by
    refine (ex_false (evB_of (k := 0) (or_f rfl ?_))).trans ex_nil
    show ev (CC 5) G (.cmp .ne (.var 9) (.var 8)) [some (.rol ns), some (insF M P dl), some (.int (i : Nat)), some (rowsD rs), some (txts tk), some (txts ls), none, none, some (.bl bb), some (.bl bb), some (.int M'), some (.int P'), some (dD dl')] = _
    simp only [ev, List.getElem?_cons_zero, List.getElem?_cons_succ, cmpD, eqd_bl, Option.map_some]
    rfl
  have t9 : PV.exec (CC 5) G W (.setf 7 "dealt" "zzz" 0) (lwE ns (0, insF M P dl) rs tk ls (some (0, .int (i : Nat))) (some (1, .dic [])) (some (2, insF M' P' dl')) (some (0, .bl bb)) (some (0, .bl bb)) (some (0, .int M')) (some (0, .int P')) (some (0, dD dl'))) = some (.nx (lwE ns (0, insF M P dl) rs tk ls (some (0, .int (i : Nat))) (some (1, .dic [])) (some (2, insF M' P' (dl' ++ [zz3]))) (some (0, .bl bb)) (some (0, .bl bb)) (some (0, .int M')) (some (0, .int P')) (some (0, dD dl')))) :=
    (ex_setf (i := 7) (d := insF M' P' dl') rfl (put_zzz z' (show dl'.length < 100000 by omega))).trans rfl
  have hsh2 := shows_ok (M := M') (P := P') (dl := dl' ++ [zz3]) h (Nms.lst tk) (Nms.lst ls) (fun x hx => by
    rw [List.map_append] at hx
    rcases List.mem_append.mp hx with hx | hx
    · exact hd'.lay x hx
    · have : x = "zzz" := List.mem_singleton.mp hx
      subst this
      exact lay_zzz) (by rw [List.length_append, List.length_singleton]; have := hd'.len; omega)
  have hfalse : dueP (tk ++ setsL rs) rs.length (lawAt rs tk ls) M' P' (dl' ++ [zz3]) = false := by
    unfold dueP
    rw [decide_eq_false (p := sortS ((dl' ++ [zz3]).map (·.1)) = sortS (tk ++ setsL rs)) ?_]
    · rfl
    · intro z
      have m1 : ("zzz" : Str) ∈ sortS ((dl' ++ [zz3]).map (·.1)) := (sortS_perm _).mem_iff.mpr (by rw [List.map_append]; exact List.mem_append_right _ (List.mem_singleton.mpr rfl))
      rw [z] at m1
      exact zzz_out.1 (h.names _ ((sortS_perm _).mem_iff.mp m1))
  rw [hfalse] at hsh2
  have t10 : PV.exec (CC 5) G W (.ite (.cmp .isnot showE (.bl false)) (.cons (.ret (.bl false)) .nil) .nil) (lwE ns (0, insF M P dl) rs tk ls (some (0, .int (i : Nat))) (some (1, .dic [])) (some (2, insF M' P' (dl' ++ [zz3]))) (some (0, .bl bb)) (some (0, .bl bb)) (some (0, .int M')) (some (0, .int P')) (some (0, dD dl'))) = some (.nx (lwE ns (0, insF M P dl) rs tk ls (some (0, .int (i : Nat))) (some (1, .dic [])) (some (2, insF M' P' (dl' ++ [zz3]))) (some (0, .bl bb)) (some (0, .bl bb)) (some (0, .int M')) (some (0, .int P')) (some (0, dD dl')))) := by
    refine (ex_false (evB_of (k := 0) ?_)).trans ex_nil
    show ev (CC 5) G (.cmp .isnot showE (.bl false)) [some (.rol ns), some (insF M P dl), some (.int (i : Nat)), some (rowsD rs), some (txts tk), some (txts ls), none, some (insF M' P' (dl' ++ [zz3])), some (.bl bb), some (.bl bb), some (.int M'), some (.int P'), some (dD dl')] = _
    rw [ev, shE rfl rfl rfl rfl hsh2]; rfl
  exact ⟨_, _, _, _, _, _, _, (ex_nx t1).trans ((ex_nx t2).trans ((ex_nx t3).trans ((ex_nx t4).trans ((ex_nx t5).trans ((ex_nx t6).trans ((ex_nx t7).trans ((ex_nx t8).trans ((ex_nx t9).trans ((ex_nx t10).trans ex_nil)))))))))⟩
theorem hand_loop (h : Right rs tk ls) (hM : 0 ≤ M) (hd : Hd 28 dl) : ∀ (l : List Nat) (k1 : Nat) (x2 x6 x7 x8 x9 x10 x11 x12 : Option (Nat × D)), Old3 x2 x6 x7 x8 x9 x10 x11 x12 →
    ∃ ρ, forL (.one 2) (fun r => PV.exec (CC 5) G W handB r) (l.map fun i => D.int ((i : Nat) : Int)) (lwE ns (k1, insF M P dl) rs tk ls x2 x6 x7 x8 x9 x10 x11 x12) = some (.nx ρ)
  | [], _, _, _, _, _, _, _, _, _, _ => ⟨_, rfl⟩
  | i :: l, k1, x2, x6, x7, x8, x9, x10, x11, x12, ho => by
    obtain ⟨b, c, d, e, f, g, j, t⟩ := hand_turn (ns := ns) (P := P) (k1 := k1) h hM hd (i := i) ho
    obtain ⟨ρ, ih⟩ := hand_loop h hM hd l 0 (some (0, .int (i : Nat))) (some (1, b)) (some (2, c)) (some (0, d)) (some (0, e)) (some (0, f)) (some (0, g)) (some (0, j)) (.inr ⟨_, _, _, _, _, _, _, _, rfl, rfl, rfl, rfl, rfl, rfl, rfl, rfl⟩)
    refine ⟨ρ, ?_⟩
    have ea : asgE (.one 2) (.int ((i : Nat) : Int)) (lwE ns (k1, insF M P dl) rs tk ls x2 x6 x7 x8 x9 x10 x11 x12) = some (lwE ns (k1, insF M P dl) rs tk ls (some (0, .int (i : Nat))) x6 x7 x8 x9 x10 x11 x12) := rfl
    rw [List.map_cons]
    unfold forL
    rw [ea]
    dsimp only
    rw [t]
    exact ih
end
theorem law_ok (ns : List Int) : CC 6 (.fn "law") [.rol ns] [] [] = some (0, .bl true) := by
  show runD (CC 5) G W d_law [.rol ns] = _
  obtain ⟨rs, tk, ls, h, hst⟩ := straight_ok ns
  obtain ⟨P, p1, p2⟩ := fewest_ok h (Nms.lst tk) (Nms.lst ls)
  have hkS := stretchS_keys rs tk ls
  obtain ⟨b1, b2, b3⟩ := big_ok (stretchS tk rs ls) rs.length
  have hM : 0 ≤ bigM (stretchS tk rs ls) rs.length := by
    unfold cntL at b2
    obtain ⟨i, _, e⟩ := List.mem_map.mp b2
    rw [← e]
    omega
  have hkeys : (deal (stretchS tk rs ls) (stretchS tk rs ls) []).map (·.1) = tk ++ setsL rs := by
    rw [← hkS]
    refine (deal_ok (S := stretchS tk rs ls) (M := bigM (stretchS tk rs ls) rs.length) (by rw [hkS]; exact h.nodup) stretch_sorted (fun p hp => (stretch_be hp).1) (fun p hp => ?_)).1
    obtain ⟨_, i, e, hi⟩ := stretch_be hp
    refine b3 _ ?_
    unfold cntL
    exact List.mem_map.mpr ⟨i, List.mem_range.mpr (by omega), by rw [e]⟩
  revert p2 hkeys hM
  generalize deal (stretchS tk rs ls) (stretchS tk rs ls) [] = dl
  generalize bigM (stretchS tk rs ls) rs.length = M
  intro p2 hM hkeys
  have hd : Hd 28 dl := ⟨fun x hx => .inl (h.names x (by rw [← hkeys]; exact hx)), by rw [hkeys]; exact h.nodup, by
    have e := congrArg List.length hkeys
    rw [List.length_map] at e
    rw [e]; exact h.len⟩
  have s1 : PV.exec (CC 5) G W (.unp [3, 4, 5] (.call "_law_straight" (.cons (.var 0) .nil) [] .nil)) [some (0, .rol ns), none, none, none, none, none, none, none, none, none, none, none, none] = some (.nx [some (0, .rol ns), none, none, some (0, rowsD rs), some (0, txts tk), some (0, txts ls), none, none, none, none, none, none, none]) := by
    refine (ex_unp (k := 0) (ds := [rowsD rs, txts tk, txts ls]) (evS_fz (k := 0) ?_ rfl) rfl).trans rfl
    show ev (CC 5) G _ [some (.rol ns), none, none, none, none, none, none, none, none, none, none, none, none] = _
    simp only [ev, evs, List.getElem?_cons_zero]
    exact hst
  have s2 : PV.exec (CC 5) G W (.set 1 (.call "fewest" (.cons (.var 3) .nil) ["takes", "last"] (.cons (.var 4) (.cons (.var 5) .nil)))) [some (0, .rol ns), none, none, some (0, rowsD rs), some (0, txts tk), some (0, txts ls), none, none, none, none, none, none, none] = some (.nx (lwE ns (2, insF M (P : Nat) dl) rs tk ls none none none none none none none none)) := by
    refine (ex_set (k := 2) (d := insF M (P : Nat) dl) (evS_ns ?_ (nosh_insF _ _ _))).trans rfl
    show ev (CC 5) G _ [some (.rol ns), none, none, some (rowsD rs), some (txts tk), some (txts ls), none, none, none, none, none, none, none] = _
    simp only [ev, evs, List.getElem?_cons_zero, List.getElem?_cons_succ]
    exact few_kw2.trans p2
  obtain ⟨ρ, hL⟩ := hand_loop (ns := ns) (M := M) (P := (P : Nat)) h hM hd (List.range 7) 2 none none none none none none none none (.inl ⟨rfl, rfl, rfl, rfl, rfl, rfl, rfl, rfl⟩)
  have s3 : PV.exec (CC 5) G W (.for_ (.one 2) (.rng (.int 7)) handB) (lwE ns (2, insF M (P : Nat) dl) rs tk ls none none none none none none none none) = some (.nx ρ) :=
    (ex_for (ds := (List.range 7).map fun i => D.int ((i : Nat) : Int)) rfl rfl).trans hL
  exact run_rt ((ex_nx s1).trans ((ex_nx s2).trans ((ex_nx s3).trans (ex_rt (ex_ret (k := 0) (d := .bl true) (evS_ns rfl rfl))))))
end K9

set_option Elab.async false
set_option linter.all false
set_option maxRecDepth 100000
set_option maxHeartbeats 4000000
/-! k09, the head: what the top has written. -/
namespace K9
open PySem PySem.Spec PyProof.Rows L2 PV LamX
def spLaw (K : PySem.W.Frag) (Pq : Addr) : Sp := fun vs H Q _ => ∃ (a : Addr) (ns : List Int), vs = [.ref a] ∧ SqL K H a (ns.map V.int) ∧ ns.length ≤ 63 ∧ H Pq = some (.tbl #[]) ∧ ∀ H', Q (.bl true) H'
theorem rot0 {K : PySem.W.Frag} {F : Hp} {e : Addr} {u : Option Addr} {m : Nat} {r : Array (Option Value)} (h : K.lookup e = some ⟨.type "tuple", u, .seq #[] m, r⟩) : Dat K F (.ref e) (.rot []) :=
  .rot (vs := []) (.inr ⟨_, _, _, h, rfl, rfl, by decide, .nil⟩) .nil (by decide)
section
variable [Tabl]
theorem df_mk {g : G5} {t : Dfn} {f : Addr} {fd : FuncData} (F : L2.Fun g.K t.nm t.ql t.st f fd) (sc : FnScope t.N t.ps (defScope t.st)) (tr : trSs 60 ⟨t.N, defScope t.st, defScope t.st, t.lam⟩ 60 (defBody t.st) = some t.body) (hw : ∀ y ∈ t.ways, WayOk g.K fd t.ps y) (hl : t.lam = false) : DfOk g t f fd :=
  ⟨F, sc, ⟨60, 60, tr⟩, hw, fun h => by rw [hl] at h; cases h⟩
end
/-- two keywords the other way round -/
def sw {α : Type} : List α → List α
  | [a, b] => [b, a]
  | l => l
theorem sw_vals {vs : List V} {us : List Value} (r : Vals vs us) : Vals (sw vs) (sw us) := by
  cases r with
  | nil => exact .nil
  | cons a r => cases r with
    | nil => exact .cons a .nil
    | cons b r => cases r with
      | nil => exact .cons b (.cons a .nil)
      | cons c r => exact .cons a (.cons b (.cons c r))
theorem one_way {K : PySem.W.Frag} {fd : FuncData} {ps : List Str} {y : Way} (h : WayOk K fd ps y) : ∀ z ∈ [y], WayOk K fd ps z := fun z hz => by
  have := List.mem_singleton.mp hz
  subst this; exact h
theorem all_mk {l : PySem.W.OpenLaw} {w : World} {K : PySem.W.Frag} {h : Heap} {mg : Str → Option Value} {fa f0 f1 f2 f3 f4 f5 f6 f7 f8 f9 f10 f11 f12 f13 f14 f15 f16 f17 f18 f19 cq Pq C CA fi fs mm : Addr} {tk0 tk1 tk2 tk3 tk4 tk5 tk6 th0 th1 th2 th3 : Tok} {nm : Nat} (X : K.In h) (H : h.Ns mainGlobals mg) (hfa : mg "law" = some (.ref fa))
    {od0 an0 od1 an1 od2 an2 od3 an3 od4 an4 od5 an5 od6 an6 od7 an7 od8 an8 od9 an9 od10 an10 od11 an11 od12 an12 od13 an13 od14 an14 od15 an15 od16 an16 od17 an17 od18 an18 od19 an19 odi ani odm anm um : Option Addr} {sl0 sl1 sl2 sl3 sl4 sl5 sl6 sl7 sl8 sl9 sl10 sl11 sl12 sl13 sl14 sl15 sl16 sl17 sl18 sl19 sli slm rm : Array (Option Value)} {oc0 dc0 pm0 ct0 kV0 oc1 dc1 pm1 ct1 kV1 oc2 dc2 pm2 ct2 kV2 oc3 dc3 pm3 ct3 kV3 oc4 dc4 pm4 ct4 kV4 oc5 dc5 pm5 ct5 kV5 oc6 dc6 pm6 ct6 kV6 oc7 dc7 pm7 ct7 kV7 oc8 dc8 pm8 ct8 kV8 oc9 dc9 pm9 ct9 kV9 oc10 dc10 pm10 ct10 kV10 oc11 dc11 pm11 ct11 kV11 oc12 dc12 pm12 ct12 kV12 oc13 dc13 pm13 ct13 kV13 oc14 dc14 pm14 ct14 kV14 oc15 dc15 pm15 ct15 kV15 oc16 dc16 pm16 ct16 kV16 oc17 dc17 pm17 ct17 kV17 oc18 dc18 pm18 ct18 kV18 oc19 dc19 pm19 ct19 kV19 oci dci pmi cti kVi ocm dcm pmm ctm kVm cd0 cd1 cd2 cd3 cd4 cd5 cd6 cd7 cd8 cd9 cd11 cd12 cd13 cd14 cd15 cd16 cd17 cd18 cd19 cdi cdm : Value}
    (a0 : PySem.W.nsIn K mainGlobals "is_number" = some (some (.ref f0)))
    (l0 : K.lookup f0 = some ⟨oc0, od0, .func (PySem.W.fnOf "is_number" "is_number" (defArgs (topS 10)) (defBody (topS 10)) (defScope (topS 10)) .none kV0 dc0 pm0 an0 cd0 ct0), sl0⟩)
    (c0 : PySem.W.codeIn K cd0 "is_number" = true)
    (k0 : PySem.W.keepIn K (.ref f0) = true)
    (a1 : PySem.W.nsIn K mainGlobals "is_worth" = some (some (.ref f1)))
    (l1 : K.lookup f1 = some ⟨oc1, od1, .func (PySem.W.fnOf "is_worth" "is_worth" (defArgs (topS 11)) (defBody (topS 11)) (defScope (topS 11)) .none kV1 dc1 pm1 an1 cd1 ct1), sl1⟩)
    (c1 : PySem.W.codeIn K cd1 "is_worth" = true)
    (k1 : PySem.W.keepIn K (.ref f1) = true)
    (a2 : PySem.W.nsIn K mainGlobals "is_name" = some (some (.ref f2)))
    (l2 : K.lookup f2 = some ⟨oc2, od2, .func (PySem.W.fnOf "is_name" "is_name" (defArgs (topS 12)) (defBody (topS 12)) (defScope (topS 12)) .none kV2 dc2 pm2 an2 cd2 ct2), sl2⟩)
    (c2 : PySem.W.codeIn K cd2 "is_name" = true)
    (k2 : PySem.W.keepIn K (.ref f2) = true)
    (a3 : PySem.W.nsIn K mainGlobals "are_unlike" = some (some (.ref f3)))
    (l3 : K.lookup f3 = some ⟨oc3, od3, .func (PySem.W.fnOf "are_unlike" "are_unlike" (defArgs (topS 13)) (defBody (topS 13)) (defScope (topS 13)) .none kV3 dc3 pm3 an3 cd3 ct3), sl3⟩)
    (c3 : PySem.W.codeIn K cd3 "are_unlike" = true)
    (k3 : PySem.W.keepIn K (.ref f3) = true)
    (a4 : PySem.W.nsIn K mainGlobals "is_row" = some (some (.ref f4)))
    (l4 : K.lookup f4 = some ⟨oc4, od4, .func (PySem.W.fnOf "is_row" "is_row" (defArgs (topS 15)) (defBody (topS 15)) (defScope (topS 15)) .none kV4 dc4 pm4 an4 cd4 ct4), sl4⟩)
    (c4 : PySem.W.codeIn K cd4 "is_row" = true)
    (k4 : PySem.W.keepIn K (.ref f4) = true)
    (a5 : PySem.W.nsIn K mainGlobals "needs_of" = some (some (.ref f5)))
    (l5 : K.lookup f5 = some ⟨oc5, od5, .func (PySem.W.fnOf "needs_of" "needs_of" (defArgs (topS 16)) (defBody (topS 16)) (defScope (topS 16)) .none kV5 dc5 pm5 an5 cd5 ct5), sl5⟩)
    (c5 : PySem.W.codeIn K cd5 "needs_of" = true)
    (k5 : PySem.W.keepIn K (.ref f5) = true)
    (a6 : PySem.W.nsIn K mainGlobals "set_by" = some (some (.ref f6)))
    (l6 : K.lookup f6 = some ⟨oc6, od6, .func (PySem.W.fnOf "set_by" "set_by" (defArgs (topS 17)) (defBody (topS 17)) (defScope (topS 17)) .none kV6 dc6 pm6 an6 cd6 ct6), sl6⟩)
    (c6 : PySem.W.codeIn K cd6 "set_by" = true)
    (k6 : PySem.W.keepIn K (.ref f6) = true)
    (a7 : PySem.W.nsIn K mainGlobals "stretches_of" = some (some (.ref f7)))
    (l7 : K.lookup f7 = some ⟨oc7, od7, .func (PySem.W.fnOf "stretches_of" "stretches_of" (defArgs (topS 20)) (defBody (topS 20)) (defScope (topS 20)) .none kV7 dc7 pm7 an7 cd7 ct7), sl7⟩)
    (c7 : PySem.W.codeIn K cd7 "stretches_of" = true)
    (k7 : PySem.W.keepIn K (.ref f7) = true)
    (a8 : PySem.W.nsIn K mainGlobals "standing" = some (some (.ref f8)))
    (l8 : K.lookup f8 = some ⟨oc8, od8, .func (PySem.W.fnOf "standing" "standing" (defArgs (topS 21)) (defBody (topS 21)) (defScope (topS 21)) .none kV8 dc8 pm8 an8 cd8 ct8), sl8⟩)
    (c8 : PySem.W.codeIn K cd8 "standing" = true)
    (k8 : PySem.W.keepIn K (.ref f8) = true)
    (a9 : PySem.W.nsIn K mainGlobals "asked_straight" = some (some (.ref f9)))
    (l9 : K.lookup f9 = some ⟨oc9, od9, .func (PySem.W.fnOf "asked_straight" "asked_straight" (defArgs (topS 26)) (defBody (topS 26)) (defScope (topS 26)) .none kV9 dc9 pm9 an9 cd9 ct9), sl9⟩)
    (c9 : PySem.W.codeIn K cd9 "asked_straight" = true)
    (k9 : PySem.W.keepIn K (.ref f9) = true)
    (a10 : PySem.W.nsIn K mainGlobals "fewest" = some (some (.ref f10)))
    (l10 : K.lookup f10 = some ⟨oc10, od10, .func (PySem.W.fnOf "fewest" "fewest" (defArgs (topS 27)) (defBody (topS 27)) (defScope (topS 27)) .none kV10 dc10 pm10 an10 (.ref cq) ct10), sl10⟩)
    (c10 : PySem.W.codeIn K (.ref cq) "fewest" = true)
    (k10 : PySem.W.keepIn K (.ref f10) = true)
    (a11 : PySem.W.nsIn K mainGlobals "_law_cell_at" = some (some (.ref f11)))
    (l11 : K.lookup f11 = some ⟨oc11, od11, .func (PySem.W.fnOf "_law_cell_at" "_law_cell_at" (defArgs (topS 29)) (defBody (topS 29)) (defScope (topS 29)) .none kV11 dc11 pm11 an11 cd11 ct11), sl11⟩)
    (c11 : PySem.W.codeIn K cd11 "_law_cell_at" = true)
    (k11 : PySem.W.keepIn K (.ref f11) = true)
    (a12 : PySem.W.nsIn K mainGlobals "_law_numbers" = some (some (.ref f12)))
    (l12 : K.lookup f12 = some ⟨oc12, od12, .func (PySem.W.fnOf "_law_numbers" "_law_numbers" (defArgs (topS 30)) (defBody (topS 30)) (defScope (topS 30)) .none kV12 dc12 pm12 an12 cd12 ct12), sl12⟩)
    (c12 : PySem.W.codeIn K cd12 "_law_numbers" = true)
    (k12 : PySem.W.keepIn K (.ref f12) = true)
    (a13 : PySem.W.nsIn K mainGlobals "_law_straight" = some (some (.ref f13)))
    (l13 : K.lookup f13 = some ⟨oc13, od13, .func (PySem.W.fnOf "_law_straight" "_law_straight" (defArgs (topS 31)) (defBody (topS 31)) (defScope (topS 31)) .none kV13 dc13 pm13 an13 cd13 ct13), sl13⟩)
    (c13 : PySem.W.codeIn K cd13 "_law_straight" = true)
    (k13 : PySem.W.keepIn K (.ref f13) = true)
    (a14 : PySem.W.nsIn K mainGlobals "_law_needs" = some (some (.ref f14)))
    (l14 : K.lookup f14 = some ⟨oc14, od14, .func (PySem.W.fnOf "_law_needs" "_law_needs" (defArgs (topS 32)) (defBody (topS 32)) (defScope (topS 32)) .none kV14 dc14 pm14 an14 cd14 ct14), sl14⟩)
    (c14 : PySem.W.codeIn K cd14 "_law_needs" = true)
    (k14 : PySem.W.keepIn K (.ref f14) = true)
    (a15 : PySem.W.nsIn K mainGlobals "_law_sets" = some (some (.ref f15)))
    (l15 : K.lookup f15 = some ⟨oc15, od15, .func (PySem.W.fnOf "_law_sets" "_law_sets" (defArgs (topS 33)) (defBody (topS 33)) (defScope (topS 33)) .none kV15 dc15 pm15 an15 cd15 ct15), sl15⟩)
    (c15 : PySem.W.codeIn K cd15 "_law_sets" = true)
    (k15 : PySem.W.keepIn K (.ref f15) = true)
    (a16 : PySem.W.nsIn K mainGlobals "_law_at" = some (some (.ref f16)))
    (l16 : K.lookup f16 = some ⟨oc16, od16, .func (PySem.W.fnOf "_law_at" "_law_at" (defArgs (topS 34)) (defBody (topS 34)) (defScope (topS 34)) .none kV16 dc16 pm16 an16 cd16 ct16), sl16⟩)
    (c16 : PySem.W.codeIn K cd16 "_law_at" = true)
    (k16 : PySem.W.keepIn K (.ref f16) = true)
    (a17 : PySem.W.nsIn K mainGlobals "_law_due" = some (some (.ref f17)))
    (l17 : K.lookup f17 = some ⟨oc17, od17, .func (PySem.W.fnOf "_law_due" "_law_due" (defArgs (topS 35)) (defBody (topS 35)) (defScope (topS 35)) .none kV17 dc17 pm17 an17 cd17 ct17), sl17⟩)
    (c17 : PySem.W.codeIn K cd17 "_law_due" = true)
    (k17 : PySem.W.keepIn K (.ref f17) = true)
    (a18 : PySem.W.nsIn K mainGlobals "_law_bent" = some (some (.ref f18)))
    (l18 : K.lookup f18 = some ⟨oc18, od18, .func (PySem.W.fnOf "_law_bent" "_law_bent" (defArgs (topS 36)) (defBody (topS 36)) (defScope (topS 36)) .none kV18 dc18 pm18 an18 cd18 ct18), sl18⟩)
    (c18 : PySem.W.codeIn K cd18 "_law_bent" = true)
    (k18 : PySem.W.keepIn K (.ref f18) = true)
    (a19 : PySem.W.nsIn K mainGlobals "law" = some (some (.ref f19)))
    (l19 : K.lookup f19 = some ⟨oc19, od19, .func (PySem.W.fnOf "law" "law" (defArgs (topS 37)) (defBody (topS 37)) (defScope (topS 37)) .none kV19 dc19 pm19 an19 cd19 ct19), sl19⟩)
    (c19 : PySem.W.codeIn K cd19 "law" = true)
    (k19 : PySem.W.keepIn K (.ref f19) = true)
    (aC : PySem.W.nsIn K mainGlobals "Fewest" = some (some (.ref C)))
    (aA : PySem.W.nsIn K mainGlobals "Answer" = some (some (.ref CA)))
    (mk1 : PySem.W.makesIn K C = true)
    (mk2 : PySem.W.findIn K (.ref C) "__init__" = some (some (.ref fi)))
    (mk3 : PySem.W.isFn K (.ref fi) = true)
    (mk4 : PySem.W.keepIn K (.ref C) = true)
    (cl1 : PySem.W.plainGet K C Str.empty = true)
    (cl2 : PySem.W.hasDictIn K C = true)
    (cl3 : PySem.W.plainOver K C = true)
    (cl4 : PySem.W.findIn K (.ref C) "__setattr__" = some (some (.builtin "object.__setattr__")))
    (ck1 : PySem.W.findIn K (.ref C) "__class__" = some (some (.builtin "object.__class__")))
    (ck2 : PySem.W.specialIn K (.builtin "object.__class__") "__get__" = some (some (.builtin "getset_descriptor.__get__")))
    (ck3 : PySem.W.takesIn K (.builtin "object.__class__") = some true)
    (ck4 : PySem.W.mroIn K C (.type "object") = some true)
    (ki1 : PySem.W.kitOne K (.ref C) (.ref C) = some true)
    (ki2 : PySem.W.kitOne K (.ref C) (.ref CA) = some true)
    (na0 : PySem.W.findIn K (.ref C) "many" = some none)
    (na1 : PySem.W.findIn K (.ref C) "place" = some none)
    (na2 : PySem.W.findIn K (.ref C) "dealt" = some none)
    (li : K.lookup fi = some ⟨oci, odi, .func (PySem.W.fnOf "__init__" "Fewest.__init__" (defArgs (inClass (topS 22) 0)) (defBody (inClass (topS 22) 0)) (defScope (inClass (topS 22) 0)) .none kVi dci pmi ani cdi cti), sli⟩)
    (ci : PySem.W.codeIn K cdi "Fewest.__init__" = true)
    (kpi : PySem.W.keepIn K (.ref fi) = true)
    (ms1 : PySem.W.findIn K (.ref C) "shows" = some (some (.ref fs)))
    (ms2 : PySem.W.isFn K (.ref fs) = true)
    (lm : K.lookup fs = some ⟨ocm, odm, .func (PySem.W.fnOf "shows" "Fewest.shows" (defArgs (inClass (topS 22) 1)) (defBody (inClass (topS 22) 1)) (defScope (inClass (topS 22) 1)) .none kVm dcm pmm anm cdm ctm), slm⟩)
    (cm : PySem.W.codeIn K cdm "Fewest.shows" = true)
    (kpm : PySem.W.keepIn K (.ref fs) = true)
    (z0 : PySem.W.nsIn K mainGlobals "len" = some none)
    (z1 : PySem.W.nsIn K mainGlobals "all" = some none)
    (z2 : PySem.W.nsIn K mainGlobals "any" = some none)
    (z3 : PySem.W.nsIn K mainGlobals "list" = some none)
    (z4 : PySem.W.nsIn K mainGlobals "tuple" = some none)
    (z5 : PySem.W.nsIn K mainGlobals "set" = some none)
    (z6 : PySem.W.nsIn K mainGlobals "isinstance" = some none)
    (z7 : PySem.W.nsIn K mainGlobals "range" = some none)
    (z8 : PySem.W.nsIn K mainGlobals "enumerate" = some none)
    (z9 : PySem.W.nsIn K mainGlobals "zip" = some none)
    (z10 : PySem.W.nsIn K mainGlobals "int" = some none)
    (z11 : PySem.W.nsIn K mainGlobals "bool" = some none)
    (z12 : PySem.W.nsIn K mainGlobals "str" = some none)
    (z13 : PySem.W.nsIn K mainGlobals "dict" = some none)
    (z14 : PySem.W.nsIn K mainGlobals "sorted" = some none)
    (z15 : PySem.W.nsIn K mainGlobals "min" = some none)
    (z16 : PySem.W.nsIn K mainGlobals "max" = some none)
    (z17 : PySem.W.nsIn K mainGlobals "sum" = some none)
    (yy0 : PySem.W.nsIn K mainGlobals "LETTERS" = some (some (.str "abcdefghijklmnopqrstuvwxyz" tk0)))
    (yy1 : PySem.W.nsIn K mainGlobals "LONGEST" = some (some (.int 8 tk1)))
    (yy2 : PySem.W.nsIn K mainGlobals "LOW" = some (some (.int (-32768) tk2)))
    (yy3 : PySem.W.nsIn K mainGlobals "HIGH" = some (some (.int 32767 tk3)))
    (yy4 : PySem.W.nsIn K mainGlobals "TAKES" = some (some (.int 3 tk4)))
    (yy5 : PySem.W.nsIn K mainGlobals "ROWS" = some (some (.int 20 tk5)))
    (yy6 : PySem.W.nsIn K mainGlobals "MANY" = some (some (.int 8 tk6)))
    (ym : PySem.W.nsIn K mainGlobals "MAKERS" = some (some (.ref mm)))
    (yl : K.lookup mm = some ⟨.type "tuple", um, .seq #[.str "plus" th0, .str "less" th1, .str "times" th2, .str "under" th3] nm, rm⟩)
    (nP : K.lookup Pq = none)
    (hP : h.get? Pq = some { cls := .none, data := .fields #[] }) (cP : PySem.W.CodeHd h cq Pq) :
    LawAtS l w K L2.CX0 6 63 "_law_script" mg fa h := by
  have e := hfa.symm.trans (PySem.W.mg_of X H a19)
  cases e
  have F0 := fun_mk (st := topS 10) l0 c0 k0
  have F1 := fun_mk (st := topS 11) l1 c1 k1
  have F2 := fun_mk (st := topS 12) l2 c2 k2
  have F3 := fun_mk (st := topS 13) l3 c3 k3
  have F4 := fun_mk (st := topS 15) l4 c4 k4
  have F5 := fun_mk (st := topS 16) l5 c5 k5
  have F6 := fun_mk (st := topS 17) l6 c6 k6
  have F7 := fun_mk (st := topS 20) l7 c7 k7
  have F8 := fun_mk (st := topS 21) l8 c8 k8
  have F9 := fun_mk (st := topS 26) l9 c9 k9
  have F10 := fun_mk (st := topS 27) l10 c10 k10
  have F11 := fun_mk (st := topS 29) l11 c11 k11
  have F12 := fun_mk (st := topS 30) l12 c12 k12
  have F13 := fun_mk (st := topS 31) l13 c13 k13
  have F14 := fun_mk (st := topS 32) l14 c14 k14
  have F15 := fun_mk (st := topS 33) l15 c15 k15
  have F16 := fun_mk (st := topS 34) l16 c16 k16
  have F17 := fun_mk (st := topS 35) l17 c17 k17
  have F18 := fun_mk (st := topS 36) l18 c18 k18
  have F19 := fun_mk (st := topS 37) l19 c19 k19
  have Fi := fun_mk (st := inClass (topS 22) 0) li ci kpi
  have bi := Fi.binds (ps := c_Fewest.ps) fun _ _ _ _ _ _ us hl => match us, hl with | [_, _, _, _], _ => rfl
  have Fm := fun_mk (st := inClass (topS 22) 1) lm cm kpm
  have wf : ∀ y ∈ d_fewest.ways, WayOk K (PySem.W.fnOf "fewest" "fewest" (defArgs (topS 27)) (defBody (topS 27)) (defScope (topS 27)) .none kV10 dc10 pm10 an10 (.ref cq) ct10) d_fewest.ps y := one_way ⟨fun us ws => us ++ ws, fun vs zs => vs ++ zs, ⟨fun s us ws _ hu hw => match us, ws, hu, hw with | [_], [_, _], _, _ => .of_eq rfl, fun r1 r2 => r1.append r2⟩, fun F vs zs ds es dv dz h1 h2 => match ds, es, h1, h2, dv, dz with | [_], [_, _], _, _, .cons d1 .nil, .cons d2 (.cons d3 .nil) => .cons d1 (.cons d2 (.cons d3 .nil))⟩
  have wd_is_number : ∀ y ∈ d_is_number.ways, WayOk K (PySem.W.fnOf "is_number" "is_number" (defArgs (topS 10)) (defBody (topS 10)) (defScope (topS 10)) .none kV0 dc0 pm0 an0 cd0 ct0) d_is_number.ps y := one_way ⟨fun us _ => us, fun vs _ => vs, ⟨fun s us ws _ hu hw => match us, ws, hu, hw with | [_, _, _], [], _, _ => .of_eq rfl, fun r1 _ => r1⟩, fun F vs zs ds es dv dz h1 h2 => match ds, es, h1, h2, dv with | [_, _, _], [], _, _, dv => dv⟩
  have wd_is_worth : ∀ y ∈ d_is_worth.ways, WayOk K (PySem.W.fnOf "is_worth" "is_worth" (defArgs (topS 11)) (defBody (topS 11)) (defScope (topS 11)) .none kV1 dc1 pm1 an1 cd1 ct1) d_is_worth.ps y := one_way ⟨fun us _ => us, fun vs _ => vs, ⟨fun s us ws _ hu hw => match us, ws, hu, hw with | [_], [], _, _ => .of_eq rfl, fun r1 _ => r1⟩, fun F vs zs ds es dv dz h1 h2 => match ds, es, h1, h2, dv with | [_], [], _, _, dv => dv⟩
  have wd_is_name : ∀ y ∈ d_is_name.ways, WayOk K (PySem.W.fnOf "is_name" "is_name" (defArgs (topS 12)) (defBody (topS 12)) (defScope (topS 12)) .none kV2 dc2 pm2 an2 cd2 ct2) d_is_name.ps y := one_way ⟨fun us _ => us, fun vs _ => vs, ⟨fun s us ws _ hu hw => match us, ws, hu, hw with | [_], [], _, _ => .of_eq rfl, fun r1 _ => r1⟩, fun F vs zs ds es dv dz h1 h2 => match ds, es, h1, h2, dv with | [_], [], _, _, dv => dv⟩
  have wd_are_unlike : ∀ y ∈ d_are_unlike.ways, WayOk K (PySem.W.fnOf "are_unlike" "are_unlike" (defArgs (topS 13)) (defBody (topS 13)) (defScope (topS 13)) .none kV3 dc3 pm3 an3 cd3 ct3) d_are_unlike.ps y := one_way ⟨fun us _ => us, fun vs _ => vs, ⟨fun s us ws _ hu hw => match us, ws, hu, hw with | [_], [], _, _ => .of_eq rfl, fun r1 _ => r1⟩, fun F vs zs ds es dv dz h1 h2 => match ds, es, h1, h2, dv with | [_], [], _, _, dv => dv⟩
  have wd_is_row : ∀ y ∈ d_is_row.ways, WayOk K (PySem.W.fnOf "is_row" "is_row" (defArgs (topS 15)) (defBody (topS 15)) (defScope (topS 15)) .none kV4 dc4 pm4 an4 cd4 ct4) d_is_row.ps y := one_way ⟨fun us _ => us, fun vs _ => vs, ⟨fun s us ws _ hu hw => match us, ws, hu, hw with | [_], [], _, _ => .of_eq rfl, fun r1 _ => r1⟩, fun F vs zs ds es dv dz h1 h2 => match ds, es, h1, h2, dv with | [_], [], _, _, dv => dv⟩
  have wd_needs_of : ∀ y ∈ d_needs_of.ways, WayOk K (PySem.W.fnOf "needs_of" "needs_of" (defArgs (topS 16)) (defBody (topS 16)) (defScope (topS 16)) .none kV5 dc5 pm5 an5 cd5 ct5) d_needs_of.ps y := one_way ⟨fun us _ => us, fun vs _ => vs, ⟨fun s us ws _ hu hw => match us, ws, hu, hw with | [_], [], _, _ => .of_eq rfl, fun r1 _ => r1⟩, fun F vs zs ds es dv dz h1 h2 => match ds, es, h1, h2, dv with | [_], [], _, _, dv => dv⟩
  have wd_set_by : ∀ y ∈ d_set_by.ways, WayOk K (PySem.W.fnOf "set_by" "set_by" (defArgs (topS 17)) (defBody (topS 17)) (defScope (topS 17)) .none kV6 dc6 pm6 an6 cd6 ct6) d_set_by.ps y := one_way ⟨fun us _ => us, fun vs _ => vs, ⟨fun s us ws _ hu hw => match us, ws, hu, hw with | [_], [], _, _ => .of_eq rfl, fun r1 _ => r1⟩, fun F vs zs ds es dv dz h1 h2 => match ds, es, h1, h2, dv with | [_], [], _, _, dv => dv⟩
  have wd_stretches_of : ∀ y ∈ d_stretches_of.ways, WayOk K (PySem.W.fnOf "stretches_of" "stretches_of" (defArgs (topS 20)) (defBody (topS 20)) (defScope (topS 20)) .none kV7 dc7 pm7 an7 cd7 ct7) d_stretches_of.ps y := one_way ⟨fun us _ => us, fun vs _ => vs, ⟨fun s us ws _ hu hw => match us, ws, hu, hw with | [_, _, _], [], _, _ => .of_eq rfl, fun r1 _ => r1⟩, fun F vs zs ds es dv dz h1 h2 => match ds, es, h1, h2, dv with | [_, _, _], [], _, _, dv => dv⟩
  have wd_standing : ∀ y ∈ d_standing.ways, WayOk K (PySem.W.fnOf "standing" "standing" (defArgs (topS 21)) (defBody (topS 21)) (defScope (topS 21)) .none kV8 dc8 pm8 an8 cd8 ct8) d_standing.ps y := one_way ⟨fun us _ => us, fun vs _ => vs, ⟨fun s us ws _ hu hw => match us, ws, hu, hw with | [_, _], [], _, _ => .of_eq rfl, fun r1 _ => r1⟩, fun F vs zs ds es dv dz h1 h2 => match ds, es, h1, h2, dv with | [_, _], [], _, _, dv => dv⟩
  have wd_asked_straight : ∀ y ∈ d_asked_straight.ways, WayOk K (PySem.W.fnOf "asked_straight" "asked_straight" (defArgs (topS 26)) (defBody (topS 26)) (defScope (topS 26)) .none kV9 dc9 pm9 an9 cd9 ct9) d_asked_straight.ps y := one_way ⟨fun us _ => us, fun vs _ => vs, ⟨fun s us ws _ hu hw => match us, ws, hu, hw with | [_, _, _], [], _, _ => .of_eq rfl, fun r1 _ => r1⟩, fun F vs zs ds es dv dz h1 h2 => match ds, es, h1, h2, dv with | [_, _, _], [], _, _, dv => dv⟩
  have wd_law_cell_at : ∀ y ∈ d_law_cell_at.ways, WayOk K (PySem.W.fnOf "_law_cell_at" "_law_cell_at" (defArgs (topS 29)) (defBody (topS 29)) (defScope (topS 29)) .none kV11 dc11 pm11 an11 cd11 ct11) d_law_cell_at.ps y := one_way ⟨fun us _ => us, fun vs _ => vs, ⟨fun s us ws _ hu hw => match us, ws, hu, hw with | [_, _], [], _, _ => .of_eq rfl, fun r1 _ => r1⟩, fun F vs zs ds es dv dz h1 h2 => match ds, es, h1, h2, dv with | [_, _], [], _, _, dv => dv⟩
  have wd_law_numbers : ∀ y ∈ d_law_numbers.ways, WayOk K (PySem.W.fnOf "_law_numbers" "_law_numbers" (defArgs (topS 30)) (defBody (topS 30)) (defScope (topS 30)) .none kV12 dc12 pm12 an12 cd12 ct12) d_law_numbers.ps y := one_way ⟨fun us _ => us, fun vs _ => vs, ⟨fun s us ws _ hu hw => match us, ws, hu, hw with | [_, _], [], _, _ => .of_eq rfl, fun r1 _ => r1⟩, fun F vs zs ds es dv dz h1 h2 => match ds, es, h1, h2, dv with | [_, _], [], _, _, dv => dv⟩
  have wd_law_straight : ∀ y ∈ d_law_straight.ways, WayOk K (PySem.W.fnOf "_law_straight" "_law_straight" (defArgs (topS 31)) (defBody (topS 31)) (defScope (topS 31)) .none kV13 dc13 pm13 an13 cd13 ct13) d_law_straight.ps y := one_way ⟨fun us _ => us, fun vs _ => vs, ⟨fun s us ws _ hu hw => match us, ws, hu, hw with | [_], [], _, _ => .of_eq rfl, fun r1 _ => r1⟩, fun F vs zs ds es dv dz h1 h2 => match ds, es, h1, h2, dv with | [_], [], _, _, dv => dv⟩
  have wd_law_needs : ∀ y ∈ d_law_needs.ways, WayOk K (PySem.W.fnOf "_law_needs" "_law_needs" (defArgs (topS 32)) (defBody (topS 32)) (defScope (topS 32)) .none kV14 dc14 pm14 an14 cd14 ct14) d_law_needs.ps y := one_way ⟨fun us _ => us, fun vs _ => vs, ⟨fun s us ws _ hu hw => match us, ws, hu, hw with | [_], [], _, _ => .of_eq rfl, fun r1 _ => r1⟩, fun F vs zs ds es dv dz h1 h2 => match ds, es, h1, h2, dv with | [_], [], _, _, dv => dv⟩
  have wd_law_sets : ∀ y ∈ d_law_sets.ways, WayOk K (PySem.W.fnOf "_law_sets" "_law_sets" (defArgs (topS 33)) (defBody (topS 33)) (defScope (topS 33)) .none kV15 dc15 pm15 an15 cd15 ct15) d_law_sets.ps y := one_way ⟨fun us _ => us, fun vs _ => vs, ⟨fun s us ws _ hu hw => match us, ws, hu, hw with | [_], [], _, _ => .of_eq rfl, fun r1 _ => r1⟩, fun F vs zs ds es dv dz h1 h2 => match ds, es, h1, h2, dv with | [_], [], _, _, dv => dv⟩
  have wd_law_at : ∀ y ∈ d_law_at.ways, WayOk K (PySem.W.fnOf "_law_at" "_law_at" (defArgs (topS 34)) (defBody (topS 34)) (defScope (topS 34)) .none kV16 dc16 pm16 an16 cd16 ct16) d_law_at.ps y := one_way ⟨fun us _ => us, fun vs _ => vs, ⟨fun s us ws _ hu hw => match us, ws, hu, hw with | [_, _, _, _], [], _, _ => .of_eq rfl, fun r1 _ => r1⟩, fun F vs zs ds es dv dz h1 h2 => match ds, es, h1, h2, dv with | [_, _, _, _], [], _, _, dv => dv⟩
  have wd_law_due : ∀ y ∈ d_law_due.ways, WayOk K (PySem.W.fnOf "_law_due" "_law_due" (defArgs (topS 35)) (defBody (topS 35)) (defScope (topS 35)) .none kV17 dc17 pm17 an17 cd17 ct17) d_law_due.ps y := one_way ⟨fun us _ => us, fun vs _ => vs, ⟨fun s us ws _ hu hw => match us, ws, hu, hw with | [_, _, _, _, _, _], [], _, _ => .of_eq rfl, fun r1 _ => r1⟩, fun F vs zs ds es dv dz h1 h2 => match ds, es, h1, h2, dv with | [_, _, _, _, _, _], [], _, _, dv => dv⟩
  have wd_law_bent : ∀ y ∈ d_law_bent.ways, WayOk K (PySem.W.fnOf "_law_bent" "_law_bent" (defArgs (topS 36)) (defBody (topS 36)) (defScope (topS 36)) .none kV18 dc18 pm18 an18 cd18 ct18) d_law_bent.ps y := one_way ⟨fun us _ => us, fun vs _ => vs, ⟨fun s us ws _ hu hw => match us, ws, hu, hw with | [_, _, _, _], [], _, _ => .of_eq rfl, fun r1 _ => r1⟩, fun F vs zs ds es dv dz h1 h2 => match ds, es, h1, h2, dv with | [_, _, _, _], [], _, _, dv => dv⟩
  have wd_law : ∀ y ∈ d_law.ways, WayOk K (PySem.W.fnOf "law" "law" (defArgs (topS 37)) (defBody (topS 37)) (defScope (topS 37)) .none kV19 dc19 pm19 an19 cd19 ct19) d_law.ps y := one_way ⟨fun us _ => us, fun vs _ => vs, ⟨fun s us ws _ hu hw => match us, ws, hu, hw with | [_], [], _, _ => .of_eq rfl, fun r1 _ => r1⟩, fun F vs zs ds es dv dz h1 h2 => match ds, es, h1, h2, dv with | [_], [], _, _, dv => dv⟩
  have wm : ∀ y ∈ d_Fewest_shows.ways, WayOk K (PySem.W.fnOf "shows" "Fewest.shows" (defArgs (inClass (topS 22) 1)) (defBody (inClass (topS 22) 1)) (defScope (inClass (topS 22) 1)) .none kVm dcm pmm anm cdm ctm) d_Fewest_shows.ps y := one_way ⟨fun us ws => us ++ ws, fun vs zs => vs ++ zs, ⟨fun s us ws _ hu hw => match us, ws, hu, hw with | [_, _], [_, _], _, _ => .of_eq rfl, fun r1 r2 => r1.append r2⟩, fun F vs zs ds es dv dz h1 h2 => match ds, es, h1, h2, dv, dz with | [_, _], [_, _], _, _, .cons d1 (.cons d2 .nil), .cons d3 (.cons d4 .nil) => .cons d1 (.cons d2 (.cons d3 (.cons d4 .nil)))⟩
  have cls : Cls K C := ⟨cl1, cl2, cl3, cl4⟩
  refine ⟨PySem.W.fnOf "law" "law" (defArgs (topS 37)) (defBody (topS 37)) (defScope (topS 37)) .none kV19 dc19 pm19 an19 cd19 ct19, [(cq, Pq)], spLaw K Pq, fun p hp => ?_, fun p hp => ?_, fun p hp => ?_, fun s v => .of_eq rfl, fun H a ns hl _ ht hS => ⟨a, ns, rfl, hS, hl, ht _ (List.mem_cons_self ..), fun _ => rfl⟩, fun base _ _ TB => ?_⟩
  · rw [List.mem_singleton.mp hp]; exact hP
  · rw [List.mem_singleton.mp hp]; exact nP
  · rw [List.mem_singleton.mp hp]; exact cP
  letI : Tabl := ⟨[(Pq, lamQ "fewest")]⟩
  have tb := TB (cq, Pq) (List.mem_cons_self ..)
  have dF : DfOk ⟨l.prog, w, K, mg, base⟩ d_fewest f10 (PySem.W.fnOf "fewest" "fewest" (defArgs (topS 27)) (defBody (topS 27)) (defScope (topS 27)) .none kV10 dc10 pm10 an10 (.ref cq) ct10) := ⟨F10, s_fewest, ⟨60, 60, t_fewest⟩, wf, fun _ => ⟨cq, Pq, tb, rfl, List.mem_cons_self .., fun p hp _ => by
    have : p = (Pq, lamQ "fewest") := List.mem_singleton.mp hp
    rw [this]; rfl⟩⟩
  have M : ModOk ⟨l.prog, w, K, mg, base⟩ T G := by
    refine ⟨fun x t ht => ?_, fun x c hc => ?_, fun c m t ht => ?_, ⟨fun x d hx => ?_, fun c f hf C2 hC => ?_, fun c x b hb => ?_⟩, fun x hx => ?_⟩
    · have ht' : defsL.find? (fun z : Dfn => decide (z.nm = x)) = some t := ht
      have hm : t ∈ defsL := List.mem_of_find?_eq_some ht'
      have hn : t.nm = x := by
        have := List.find?_some ht'
        exact of_decide_eq_true this
      subst hn
      simp only [defsL, List.mem_cons, List.not_mem_nil, or_false] at hm
      rcases hm with rfl | rfl | rfl | rfl | rfl | rfl | rfl | rfl | rfl | rfl | rfl | rfl | rfl | rfl | rfl | rfl | rfl | rfl | rfl | rfl
      · exact ⟨_, _, df_mk (t := d_is_number) F0 s_is_number t_is_number wd_is_number rfl, PySem.W.mg_of X H a0⟩
      · exact ⟨_, _, df_mk (t := d_is_worth) F1 s_is_worth t_is_worth wd_is_worth rfl, PySem.W.mg_of X H a1⟩
      · exact ⟨_, _, df_mk (t := d_is_name) F2 s_is_name t_is_name wd_is_name rfl, PySem.W.mg_of X H a2⟩
      · exact ⟨_, _, df_mk (t := d_are_unlike) F3 s_are_unlike t_are_unlike wd_are_unlike rfl, PySem.W.mg_of X H a3⟩
      · exact ⟨_, _, df_mk (t := d_is_row) F4 s_is_row t_is_row wd_is_row rfl, PySem.W.mg_of X H a4⟩
      · exact ⟨_, _, df_mk (t := d_needs_of) F5 s_needs_of t_needs_of wd_needs_of rfl, PySem.W.mg_of X H a5⟩
      · exact ⟨_, _, df_mk (t := d_set_by) F6 s_set_by t_set_by wd_set_by rfl, PySem.W.mg_of X H a6⟩
      · exact ⟨_, _, df_mk (t := d_stretches_of) F7 s_stretches_of t_stretches_of wd_stretches_of rfl, PySem.W.mg_of X H a7⟩
      · exact ⟨_, _, df_mk (t := d_standing) F8 s_standing t_standing wd_standing rfl, PySem.W.mg_of X H a8⟩
      · exact ⟨_, _, df_mk (t := d_asked_straight) F9 s_asked_straight t_asked_straight wd_asked_straight rfl, PySem.W.mg_of X H a9⟩
      · exact ⟨_, _, dF, PySem.W.mg_of X H a10⟩
      · exact ⟨_, _, df_mk (t := d_law_cell_at) F11 s_law_cell_at t_law_cell_at wd_law_cell_at rfl, PySem.W.mg_of X H a11⟩
      · exact ⟨_, _, df_mk (t := d_law_numbers) F12 s_law_numbers t_law_numbers wd_law_numbers rfl, PySem.W.mg_of X H a12⟩
      · exact ⟨_, _, df_mk (t := d_law_straight) F13 s_law_straight t_law_straight wd_law_straight rfl, PySem.W.mg_of X H a13⟩
      · exact ⟨_, _, df_mk (t := d_law_needs) F14 s_law_needs t_law_needs wd_law_needs rfl, PySem.W.mg_of X H a14⟩
      · exact ⟨_, _, df_mk (t := d_law_sets) F15 s_law_sets t_law_sets wd_law_sets rfl, PySem.W.mg_of X H a15⟩
      · exact ⟨_, _, df_mk (t := d_law_at) F16 s_law_at t_law_at wd_law_at rfl, PySem.W.mg_of X H a16⟩
      · exact ⟨_, _, df_mk (t := d_law_due) F17 s_law_due t_law_due wd_law_due rfl, PySem.W.mg_of X H a17⟩
      · exact ⟨_, _, df_mk (t := d_law_bent) F18 s_law_bent t_law_bent wd_law_bent rfl, PySem.W.mg_of X H a18⟩
      · exact ⟨_, _, df_mk (t := d_law) F19 s_law t_law wd_law rfl, PySem.W.mg_of X H a19⟩
    · have hc : (if x = "Fewest" then some c_Fewest else none) = some c := hc
      obtain ⟨ex, ec⟩ := if_opt hc
      cases ec
      subst ex
      refine ⟨rfl, C, fi, _, Fi, PySem.W.mg_of X H aC, aC, ⟨mk1, mk2, mk3, mk4⟩, s_Fewest, ⟨60, t_Fewest⟩, cls, fun p hp => ?_, by decide, by decide, bi⟩
      simp only [c_Fewest, List.mem_cons, List.not_mem_nil, or_false] at hp
      rcases hp with rfl | rfl | rfl
      · exact na0
      · exact na1
      · exact na2
    · have ht : (if c = "Fewest" ∧ m = "shows" then some d_Fewest_shows else none) = some t := ht
      obtain ⟨⟨ec, em⟩, et⟩ := if_opt ht
      cases et
      subst ec em
      refine ⟨fs, _, df_mk (t := d_Fewest_shows) Fm s_Fewest_shows t_Fewest_shows wm rfl, fun C2 hC => ?_⟩
      have := aC.symm.trans hC
      cases this
      exact ⟨cls, ms1, ms2, kpm⟩
    · have hx : gv x = some d := hx
      unfold gv at hx
      split at hx
      · rename_i e
        cases hx
        subst e
        exact ⟨.str "abcdefghijklmnopqrstuvwxyz", _, PySem.W.mg_of X H yy0, ⟨_, rfl⟩, fun _ => .str _⟩
      · skip
        split at hx
        · rename_i e
          cases hx
          subst e
          exact ⟨.int 8, _, PySem.W.mg_of X H yy1, ⟨_, rfl⟩, fun _ => .int _⟩
        · skip
          split at hx
          · rename_i e
            cases hx
            subst e
            exact ⟨.int (-32768), _, PySem.W.mg_of X H yy2, ⟨_, rfl⟩, fun _ => .int _⟩
          · skip
            split at hx
            · rename_i e
              cases hx
              subst e
              exact ⟨.int 32767, _, PySem.W.mg_of X H yy3, ⟨_, rfl⟩, fun _ => .int _⟩
            · skip
              split at hx
              · rename_i e
                cases hx
                subst e
                exact ⟨.int 3, _, PySem.W.mg_of X H yy4, ⟨_, rfl⟩, fun _ => .int _⟩
              · skip
                split at hx
                · rename_i e
                  cases hx
                  subst e
                  exact ⟨.ref mm, _, PySem.W.mg_of X H ym, rfl, fun F => .rot (vs := [.str "plus", .str "less", .str "times", .str "under"]) (.inr ⟨_, _, _, yl, rfl, rfl, (show (4 : Nat) ≤ sizeLine by decide), .cons ⟨_, rfl⟩ (.cons ⟨_, rfl⟩ (.cons ⟨_, rfl⟩ (.cons ⟨_, rfl⟩ .nil)))⟩) (.cons (.str _) (.cons (.str _) (.cons (.str _) (.cons (.str _) .nil)))) (by decide)⟩
                · skip
                  split at hx
                  · rename_i e
                    cases hx
                    subst e
                    exact ⟨.int 20, _, PySem.W.mg_of X H yy5, ⟨_, rfl⟩, fun _ => .int _⟩
                  · skip
                    split at hx
                    · rename_i e
                      cases hx
                      subst e
                      exact ⟨.int 8, _, PySem.W.mg_of X H yy6, ⟨_, rfl⟩, fun _ => .int _⟩
                    · skip
                      cases hx
    · have hf : (decide (c = "Fewest") && (decide (f = "many") || decide (f = "place") || decide (f = "dealt"))) = true := hf
      rw [Bool.and_eq_true, Bool.or_eq_true, Bool.or_eq_true, decide_eq_true_iff, decide_eq_true_iff, decide_eq_true_iff, decide_eq_true_iff] at hf
      obtain ⟨ec, hf2⟩ := hf
      subst ec
      have := aC.symm.trans hC
      cases this
      refine ⟨cls, ?_⟩
      rcases hf2 with (rfl | rfl) | rfl
      · exact na0
      · exact na1
      · exact na2
    · have hb : (if c = "Fewest" ∧ (x = "Fewest" ∨ x = "Answer") then some true else none) = some b := hb
      obtain ⟨⟨ec, hx⟩, eb⟩ := if_opt hb
      cases eb
      subst ec
      rcases hx with rfl | rfl
      · exact ⟨C, PySem.W.mg_of X H aC, fun C2 hC => by
          have := aC.symm.trans hC
          cases this
          exact ⟨⟨cls, ck1, ck2, ck3, ck4⟩, ki1⟩⟩
      · exact ⟨CA, PySem.W.mg_of X H aA, fun C2 hC => by
          have := aC.symm.trans hC
          cases this
          exact ⟨⟨cls, ck1, ck2, ck3, ck4⟩, ki2⟩⟩
    · simp only [bltNames, List.mem_cons, List.not_mem_nil, or_false] at hx
      rcases hx with rfl | rfl | rfl | rfl | rfl | rfl | rfl | rfl | rfl | rfl | rfl | rfl | rfl | rfl | rfl | rfl | rfl | rfl
      · exact PySem.W.mg_none_of X H z0
      · exact PySem.W.mg_none_of X H z1
      · exact PySem.W.mg_none_of X H z2
      · exact PySem.W.mg_none_of X H z3
      · exact PySem.W.mg_none_of X H z4
      · exact PySem.W.mg_none_of X H z5
      · exact PySem.W.mg_none_of X H z6
      · exact PySem.W.mg_none_of X H z7
      · exact PySem.W.mg_none_of X H z8
      · exact PySem.W.mg_none_of X H z9
      · exact PySem.W.mg_none_of X H z10
      · exact PySem.W.mg_none_of X H z11
      · exact PySem.W.mg_none_of X H z12
      · exact PySem.W.mg_none_of X H z13
      · exact PySem.W.mg_none_of X H z14
      · exact PySem.W.mg_none_of X H z15
      · exact PySem.W.mg_none_of X H z16
      · exact PySem.W.mg_none_of X H z17
  have FN := fn_ok (w := W) (df_mk (g := ⟨l.prog, w, K, mg, base⟩) (t := d_law) F19 s_law t_law wd_law rfl) (calls_ok M W 5) M.glo M.blt (fun h => by cases h)
  refine FN.imp fun vs H Q E ⟨a, ns, e1, e2, e3, e5, e4⟩ => ?_
  subst e1
  refine ⟨H, [.rol ns], 0, .bl true, ⟨.refl _, fun p hp => ?_⟩, .cons (.rol e2 (Nat.le_trans e3 (by decide))) .nil, rfl, law_ok ns, fun v F' H' fq _ ow _ => ?_⟩
  · have : p = (Pq, lamQ "fewest") := List.mem_singleton.mp hp
    rw [this]
    exact TabS.nil e5
  · obtain ⟨dv, _⟩ := own_zero ow
    cases dv
    exact e4 H'
end K9

set_option Elab.async false
set_option linter.all false
set_option maxRecDepth 100000
open PySem PySem.W PyProof.Rows
set_option maxHeartbeats 0 in
theorem PySem.Challenge.cw_handsdealt_k09_fewest_by_hand_holds : PySem.Challenge.rw_handsdealt_k09_fewest_by_hand.Holds := by
  w_on; o_law; k_head; (case hw => w_witness2)
  k_fill
  refine LamX.walk_ofTs (l := PySem.Challenge.rw_handsdealt_k09_fewest_by_hand) (n := 63) (k := 6) (x := "_law_script") (CX := fun _ => L2.CX0) rfl (by decide) rfl ⟨rfl, by decide, by decide⟩ (fun w h Y => PySem.W.km_in_of Y) ?F (fun _ _ _ _ _ h => h)
  case F =>
    intro w mg fa h Y KX G hmg
    have hT := PySem.W.km_tabs_of Y
    refine' K9.all_mk KX G hmg ?a0 ?l0 ?c0 ?k0 ?a1 ?l1 ?c1 ?k1 ?a2 ?l2 ?c2 ?k2 ?a3 ?l3 ?c3 ?k3 ?a4 ?l4 ?c4 ?k4 ?a5 ?l5 ?c5 ?k5 ?a6 ?l6 ?c6 ?k6 ?a7 ?l7 ?c7 ?k7 ?a8 ?l8 ?c8 ?k8 ?a9 ?l9 ?c9 ?k9 ?a10 ?l10 ?c10 ?k10 ?a11 ?l11 ?c11 ?k11 ?a12 ?l12 ?c12 ?k12 ?a13 ?l13 ?c13 ?k13 ?a14 ?l14 ?c14 ?k14 ?a15 ?l15 ?c15 ?k15 ?a16 ?l16 ?c16 ?k16 ?a17 ?l17 ?c17 ?k17 ?a18 ?l18 ?c18 ?k18 ?a19 ?l19 ?c19 ?k19 ?aC ?aA ?mk1 ?mk2 ?mk3 ?mk4 ?cl1 ?cl2 ?cl3 ?cl4 ?ck1 ?ck2 ?ck3 ?ck4 ?ki1 ?ki2 ?na0 ?na1 ?na2 ?li ?ci ?kpi ?ms1 ?ms2 ?lm ?cm ?kpm ?z0 ?z1 ?z2 ?z3 ?z4 ?z5 ?z6 ?z7 ?z8 ?z9 ?z10 ?z11 ?z12 ?z13 ?z14 ?z15 ?z16 ?z17 ?yy0 ?yy1 ?yy2 ?yy3 ?yy4 ?yy5 ?yy6 ?ym ?yl ?nP (hT _ ?tt) (PySem.W.codeHd_of_K KX ?cc)
    (case a0 => k_is)
    (case l0 => k_is)
    (case c0 => k_is)
    (case k0 => k_is)
    (case a1 => k_is)
    (case l1 => k_is)
    (case c1 => k_is)
    (case k1 => k_is)
    (case a2 => k_is)
    (case l2 => k_is)
    (case c2 => k_is)
    (case k2 => k_is)
    (case a3 => k_is)
    (case l3 => k_is)
    (case c3 => k_is)
    (case k3 => k_is)
    (case a4 => k_is)
    (case l4 => k_is)
    (case c4 => k_is)
    (case k4 => k_is)
    (case a5 => k_is)
    (case l5 => k_is)
    (case c5 => k_is)
    (case k5 => k_is)
    (case a6 => k_is)
    (case l6 => k_is)
    (case c6 => k_is)
    (case k6 => k_is)
    (case a7 => k_is)
    (case l7 => k_is)
    (case c7 => k_is)
    (case k7 => k_is)
    (case a8 => k_is)
    (case l8 => k_is)
    (case c8 => k_is)
    (case k8 => k_is)
    (case a9 => k_is)
    (case l9 => k_is)
    (case c9 => k_is)
    (case k9 => k_is)
    (case a10 => k_is)
    (case l10 => k_is)
    (case c10 => k_is)
    (case k10 => k_is)
    (case a11 => k_is)
    (case l11 => k_is)
    (case c11 => k_is)
    (case k11 => k_is)
    (case a12 => k_is)
    (case l12 => k_is)
    (case c12 => k_is)
    (case k12 => k_is)
    (case a13 => k_is)
    (case l13 => k_is)
    (case c13 => k_is)
    (case k13 => k_is)
    (case a14 => k_is)
    (case l14 => k_is)
    (case c14 => k_is)
    (case k14 => k_is)
    (case a15 => k_is)
    (case l15 => k_is)
    (case c15 => k_is)
    (case k15 => k_is)
    (case a16 => k_is)
    (case l16 => k_is)
    (case c16 => k_is)
    (case k16 => k_is)
    (case a17 => k_is)
    (case l17 => k_is)
    (case c17 => k_is)
    (case k17 => k_is)
    (case a18 => k_is)
    (case l18 => k_is)
    (case c18 => k_is)
    (case k18 => k_is)
    (case a19 => k_is)
    (case l19 => k_is)
    (case c19 => k_is)
    (case k19 => k_is)
    (case aC => k_is)
    (case aA => k_is)
    (case mk1 => k_is)
    (case mk2 => k_is)
    (case mk3 => k_is)
    (case mk4 => k_is)
    (case cl1 => k_is)
    (case cl2 => k_is)
    (case cl3 => k_is)
    (case cl4 => k_is)
    (case ck1 => k_is)
    (case ck2 => k_is)
    (case ck3 => k_is)
    (case ck4 => k_is)
    (case na0 => k_is)
    (case na1 => k_is)
    (case na2 => k_is)
    (case li => k_is)
    (case ci => k_is)
    (case kpi => k_is)
    (case ms1 => k_is)
    (case ms2 => k_is)
    (case lm => k_is)
    (case cm => k_is)
    (case kpm => k_is)
    (case z0 => k_is)
    (case z1 => k_is)
    (case z2 => k_is)
    (case z3 => k_is)
    (case z4 => k_is)
    (case z5 => k_is)
    (case z6 => k_is)
    (case z7 => k_is)
    (case z8 => k_is)
    (case z9 => k_is)
    (case z10 => k_is)
    (case z11 => k_is)
    (case z12 => k_is)
    (case z13 => k_is)
    (case z14 => k_is)
    (case z15 => k_is)
    (case z16 => k_is)
    (case z17 => k_is)
    (case yy0 => k_is)
    (case yy1 => k_is)
    (case yy2 => k_is)
    (case yy3 => k_is)
    (case yy4 => k_is)
    (case yy5 => k_is)
    (case yy6 => k_is)
    (case ym => k_is)
    (case yl => k_is)
    (case ki1 => kernel_rfl)
    (case ki2 => kernel_rfl)
    (case tt => exact List.mem_cons_self ..)
    (case nP => kernel_rfl)
    (case cc => kernel_rfl)
