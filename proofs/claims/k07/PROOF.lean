import PyProof.Rows.All
import Wide.All
import OpenK.AllK
import Wide.FinOn
import HandS.ForMost
import HandS.TupAny
import HandS.IsInst
import HandS.Zip
import HandS.Conv
import HandS.DictComp
import KE.KEqDict
import KE.KDictList
import HandS.ListItems
import KE.KDictDisplayH
import HandS.Defaults
import PySem.Challenge.RW_handsdealt_k07_whole_moves
set_option Elab.async false
set_option linter.all false
set_option maxRecDepth 100000
/-! PV: a value-level reading of Python over the hand layer. Part A: data, frozen heaps, owned trees, strongest readings. -/
namespace PV
open PySem PySem.Spec PyProof.Rows L2

abbrev cap : Nat := 100000
theorem cap_le {n : Nat} (h : n ≤ cap) : n ≤ sizeLine := Nat.le_trans h (by decide)
theorem cap_lt {n : Nat} (h : n ≤ cap) : n < sizeLine := Nat.lt_of_le_of_lt h (by decide)

/-- data: what a value stands for, sharing forgotten -/
inductive D where
  | non | bl (b : Bool) | int (i : Int) | str (x : Str)
  | lst (xs : List D) | tup (xs : List D) | rol (ns : List Int) | rot (xs : List D)
  | dic (kvs : List (Key × D)) | dicT (kvs : List (List Key × D))

def Ex (H H' : Hp) : Prop := ∀ a o, H a = some o → H' a = some o
theorem Ex.refl (H : Hp) : Ex H H := fun _ _ h => h
theorem Ex.trans {H H1 H2 : Hp} (a : Ex H H1) (b : Ex H1 H2) : Ex H H2 := fun x o h => b x o (a x o h)
theorem Ex.new {H : Hp} {p : Addr} {o : HO} (h : H p = none) : Ex H (upd H p o) := fun a u e => by
  rw [upd_ne (ne_of_none e h)]; exact e
theorem Ex.free {H H' : Hp} (e : Ex H H') {l : Addr} (h : H' l = none) : H l = none := by
  cases q : H l with
  | none => rfl
  | some o => rw [e l o q] at h; cases h
theorem ex_rd {H H' : Hp} {a : Addr} {u : HO} (e : Ex H H') (h : Rd H a u) : Rd H' a u := by
  rcases h with h | ⟨o, h⟩
  · exact .inl (e a _ h)
  · exact .inr ⟨o, e a _ h⟩
theorem ex_l {K : PySem.W.Frag} {H H' : Hp} {a : Addr} {xs : List V} (e : Ex H H') (h : SqL K H a xs) : SqL K H' a xs := by
  rcases h with h | h
  · exact .inl (ex_rd e h)
  · exact .inr h
theorem ex_t {K : PySem.W.Frag} {H H' : Hp} {a : Addr} {xs : List V} (e : Ex H H') (h : SqT K H a xs) : SqT K H' a xs := by
  rcases h with h | h
  · exact .inl (ex_rd e h)
  · exact .inr h

/-! ### what data a value stands for, in a frozen heap -/
mutual
inductive Dat (K : PySem.W.Frag) (F : Hp) : V → D → Prop
  | non : Dat K F .non .non
  | bl (b : Bool) : Dat K F (.bl b) (.bl b)
  | int (i : Int) : Dat K F (.int i) (.int i)
  | str (x : Str) : Dat K F (.str x) (.str x)
  | lst {a : Addr} {vs : List V} {ds : List D} : F a = some (.lst vs) → Dats K F vs ds → ds.length ≤ cap → Dat K F (.ref a) (.lst ds)
  | tup {a : Addr} {vs : List V} {ds : List D} : F a = some (.tup vs) → Dats K F vs ds → ds.length ≤ cap → Dat K F (.ref a) (.tup ds)
  | rot {a : Addr} {vs : List V} {ds : List D} : SqT K F a vs → Dats K F vs ds → ds.length ≤ cap → Dat K F (.ref a) (.rot ds)
  | rol {a : Addr} {ns : List Int} : SqL K F a (ns.map V.int) → ns.length ≤ cap → Dat K F (.ref a) (.rol ns)
  | dic {a : Addr} {kvs : List (Key × V)} {ds : List (Key × D)} : Rd F a (.dK kvs) → kvs.map (·.1) = ds.map (·.1) → Dats K F (kvs.map (·.2)) (ds.map (·.2)) → ds.length ≤ cap → Dat K F (.ref a) (.dic ds)
  | dicT {a : Addr} {kvs : List (List Key × V)} {ds : List (List Key × D)} : F a = some (.dT kvs) → kvs.map (·.1) = ds.map (·.1) → Dats K F (kvs.map (·.2)) (ds.map (·.2)) → ds.length ≤ cap → Dat K F (.ref a) (.dicT ds)
inductive Dats (K : PySem.W.Frag) (F : Hp) : List V → List D → Prop
  | nil : Dats K F [] []
  | cons {v : V} {vs : List V} {d : D} {ds : List D} : Dat K F v d → Dats K F vs ds → Dats K F (v :: vs) (d :: ds)
end
section
variable {K : PySem.W.Frag} {F F' : Hp}
mutual
theorem Dat.mono (e : Ex F F') : ∀ {v : V} {d : D}, Dat K F v d → Dat K F' v d
  | _, _, .non => .non
  | _, _, .bl b => .bl b
  | _, _, .int i => .int i
  | _, _, .str x => .str x
  | _, _, .lst h1 h2 h3 => .lst (e _ _ h1) (Dats.mono e h2) h3
  | _, _, .tup h1 h2 h3 => .tup (e _ _ h1) (Dats.mono e h2) h3
  | _, _, .rot h1 h2 h3 => .rot (ex_t e h1) (Dats.mono e h2) h3
  | _, _, .rol h1 h2 => .rol (ex_l e h1) h2
  | _, _, .dic h1 h2 h3 h4 => .dic (ex_rd e h1) h2 (Dats.mono e h3) h4
  | _, _, .dicT h1 h2 h3 h4 => .dicT (e _ _ h1) h2 (Dats.mono e h3) h4
theorem Dats.mono (e : Ex F F') : ∀ {vs : List V} {ds : List D}, Dats K F vs ds → Dats K F' vs ds
  | _, _, .nil => .nil
  | _, _, .cons h1 h2 => .cons (Dat.mono e h1) (Dats.mono e h2)
end
theorem Dats.length : ∀ {vs : List V} {ds : List D}, Dats K F vs ds → vs.length = ds.length
  | _, _, .nil => rfl
  | _, _, .cons _ h => by rw [List.length_cons, List.length_cons, h.length]
theorem Dats.get : ∀ {vs : List V} {ds : List D} {i : Nat} {d : D}, Dats K F vs ds → ds[i]? = some d → ∃ v, vs[i]? = some v ∧ Dat K F v d
  | _, _, _, _, .nil, e => by simp at e
  | _, _, 0, _, .cons h _, e => by simp at e; subst e; exact ⟨_, rfl, h⟩
  | _, _, i + 1, d, .cons _ t, e => by
    obtain ⟨v, h1, h2⟩ := Dats.get (i := i) (d := d) t (by simpa using e)
    exact ⟨v, by simpa using h1, h2⟩
theorem Dats.getV : ∀ {vs : List V} {ds : List D} {i : Nat} {v : V}, Dats K F vs ds → vs[i]? = some v → ∃ d, ds[i]? = some d ∧ Dat K F v d
  | _, _, _, _, .nil, e => by simp at e
  | _, _, 0, _, .cons h _, e => by simp at e; subst e; exact ⟨_, rfl, h⟩
  | _, _, i + 1, v, .cons _ t, e => by
    obtain ⟨d, h1, h2⟩ := Dats.getV (i := i) (v := v) t (by simpa using e)
    exact ⟨d, by simpa using h1, h2⟩
theorem Dats.app : ∀ {vs ws : List V} {ds es : List D}, Dats K F vs ds → Dats K F ws es → Dats K F (vs ++ ws) (ds ++ es)
  | _, _, _, _, .nil, h => h
  | _, _, _, _, .cons h t, q => .cons h (Dats.app t q)
theorem Dats.take : ∀ {vs : List V} {ds : List D} (n : Nat), Dats K F vs ds → Dats K F (vs.take n) (ds.take n)
  | _, _, 0, _ => .nil
  | _, _, _ + 1, .nil => .nil
  | _, _, n + 1, .cons h t => .cons h (Dats.take n t)
theorem Dats.drop : ∀ {vs : List V} {ds : List D} (n : Nat), Dats K F vs ds → Dats K F (vs.drop n) (ds.drop n)
  | _, _, 0, h => h
  | _, _, _ + 1, .nil => .nil
  | _, _, n + 1, .cons _ t => Dats.drop n t
theorem Dats.set {v : V} {d : D} (h : Dat K F v d) : ∀ {vs : List V} {ds : List D} (n : Nat), Dats K F vs ds → Dats K F (vs.set n v) (ds.set n d)
  | _, _, _, .nil => .nil
  | _, _, 0, .cons _ t => .cons h t
  | _, _, n + 1, .cons q t => .cons q (Dats.set h n t)
theorem Dats.one {v : V} {d : D} (h : Dat K F v d) : Dats K F [v] [d] := .cons h .nil
end

/-! ### a step of the frozen heap F within the heap H -/
structure Stp (F H F' H' : Hp) : Prop where
  ff : Ex F F'
  hh : Ex H H'
  fh : Ex F' H'
  nw : ∀ a, F' a ≠ none → F a ≠ none ∨ H a = none
theorem Stp.refl {F H : Hp} (e : Ex F H) : Stp F H F H := ⟨.refl F, .refl H, e, fun _ h => .inl h⟩
theorem Stp.trans {F H F1 H1 F2 H2 : Hp} (a : Stp F H F1 H1) (b : Stp F1 H1 F2 H2) : Stp F H F2 H2 :=
  ⟨a.ff.trans b.ff, a.hh.trans b.hh, b.fh, fun x h => (b.nw x h).elim (a.nw x) fun z => .inr (a.hh.free z)⟩
/-- a new object, frozen at once -/
theorem Stp.new {F H : Hp} {p : Addr} {o : HO} (e : Ex F H) (h : H p = none) : Stp F H (upd F p o) (upd H p o) :=
  ⟨.new (e.free h), .new h, fun a u q => by
    by_cases z : a = p
    · subst z; rw [upd_same] at q ⊢; exact q
    · rw [upd_ne z] at q ⊢; exact e a u q, fun a q => by
    by_cases z : a = p
    · subst z; exact .inr h
    · rw [upd_ne z] at q; exact .inl q⟩
/-- a new object, not frozen -/
theorem Stp.loose {F H : Hp} {p : Addr} {o : HO} (e : Ex F H) (h : H p = none) : Stp F H F (upd H p o) :=
  ⟨.refl F, .new h, e.trans (.new h), fun a q => .inl q⟩

/-! ### owned trees -/
/- no container within -/
mutual
def imm : D → Bool
  | .non => true | .bl _ => true | .int _ => true | .str _ => true
  | .tup ds => imms ds
  | .rot ds => imms ds
  | .lst _ => false | .rol _ => false | .dic _ => false | .dicT _ => false
def imms : List D → Bool
  | [] => true
  | d :: ds => imm d && imms ds
end
/- k = 0: frozen; k + 1: the container itself is owned, its items are owned k deep -/
mutual
inductive Own (K : PySem.W.Frag) (F H : Hp) : Nat → V → D → List Addr → Prop
  | frz {v : V} {d : D} : Dat K F v d → Own K F H 0 v d []
  | sc {k : Nat} {v : V} {d : D} : imm d = true → Dat K F v d → Own K F H k v d []
  | lst {k : Nat} {a : Addr} {vs : List V} {ds : List D} {fp : List Addr} : H a = some (.lst vs) → F a = none → Owns K F H k vs ds fp → a ∉ fp → ds.length ≤ cap → Own K F H (k + 1) (.ref a) (.lst ds) (a :: fp)
  | dic {k : Nat} {a : Addr} {kvs : List (Key × V)} {ds : List (Key × D)} {fp : List Addr} : H a = some (.dK kvs) → F a = none → kvs.map (·.1) = ds.map (·.1) → Owns K F H k (kvs.map (·.2)) (ds.map (·.2)) fp → a ∉ fp → ds.length ≤ cap → Own K F H (k + 1) (.ref a) (.dic ds) (a :: fp)
  | dicT {k : Nat} {a : Addr} {kvs : List (List Key × V)} {ds : List (List Key × D)} {fp : List Addr} : H a = some (.dT kvs) → F a = none → kvs.map (·.1) = ds.map (·.1) → Owns K F H k (kvs.map (·.2)) (ds.map (·.2)) fp → a ∉ fp → ds.length ≤ cap → Own K F H (k + 1) (.ref a) (.dicT ds) (a :: fp)
inductive Owns (K : PySem.W.Frag) (F H : Hp) : Nat → List V → List D → List Addr → Prop
  | nil {k : Nat} : Owns K F H k [] [] []
  | cons {k : Nat} {v : V} {vs : List V} {d : D} {ds : List D} {fp fq : List Addr} : Own K F H k v d fp → Owns K F H k vs ds fq → (∀ a ∈ fp, a ∉ fq) → Owns K F H k (v :: vs) (d :: ds) (fp ++ fq)
end
section
variable {K : PySem.W.Frag} {F F' H H' : Hp}
theorem owns_zero : ∀ {vs : List V} {ds : List D}, Dats K F vs ds → Owns K F H 0 vs ds []
  | _, _, .nil => .nil
  | _, _, .cons h t => by
    have q := Owns.cons (H := H) (.frz h) (owns_zero t) (by simp)
    simpa using q
/- the owned addresses are not frozen, and stand in H -/
mutual
theorem Own.loose : ∀ {k : Nat} {v : V} {d : D} {fp : List Addr}, Own K F H k v d fp → ∀ a ∈ fp, F a = none ∧ ∃ o, H a = some o ∧ (∀ xs, o ≠ .tup xs) ∧ ∀ u v, o ≠ .frz u v
  | _, _, _, _, .frz _, a, h => by cases h
  | _, _, _, _, .sc _ _, a, h => by cases h
  | _, _, _, _, .lst h1 h2 h3 _ _, a, h => by
    rcases List.mem_cons.mp h with rfl | h
    · exact ⟨h2, _, h1, (fun _ z => nomatch z), (fun _ _ z => nomatch z)⟩
    · exact Owns.loose h3 a h
  | _, _, _, _, .dic h1 h2 _ h3 _ _, a, h => by
    rcases List.mem_cons.mp h with rfl | h
    · exact ⟨h2, _, h1, (fun _ z => nomatch z), (fun _ _ z => nomatch z)⟩
    · exact Owns.loose h3 a h
  | _, _, _, _, .dicT h1 h2 _ h3 _ _, a, h => by
    rcases List.mem_cons.mp h with rfl | h
    · exact ⟨h2, _, h1, (fun _ z => nomatch z), (fun _ _ z => nomatch z)⟩
    · exact Owns.loose h3 a h
theorem Owns.loose : ∀ {k : Nat} {vs : List V} {ds : List D} {fp : List Addr}, Owns K F H k vs ds fp → ∀ a ∈ fp, F a = none ∧ ∃ o, H a = some o ∧ (∀ xs, o ≠ .tup xs) ∧ ∀ u v, o ≠ .frz u v
  | _, _, _, _, .nil, a, h => by cases h
  | _, _, _, _, .cons h1 h2 _, a, h => by
    rcases List.mem_append.mp h with h | h
    · exact Own.loose h1 a h
    · exact Owns.loose h2 a h
end
/- owned trees stay, where their addresses stay loose and their objects stay -/
mutual
theorem Own.keep (ef : Ex F F') : ∀ {k : Nat} {v : V} {d : D} {fp : List Addr}, Own K F H k v d fp → (∀ a ∈ fp, H' a = H a ∧ F' a = none) → Own K F' H' k v d fp
  | _, _, _, _, .frz h, _ => .frz (h.mono ef)
  | _, _, _, _, .sc i h, _ => .sc i (h.mono ef)
  | _, _, _, _, .lst h1 h2 h3 h4 h5, q => .lst ((q _ List.mem_cons_self).1.trans h1) (q _ List.mem_cons_self).2 (Owns.keep ef h3 fun a h => q a (List.mem_cons_of_mem _ h)) h4 h5
  | _, _, _, _, .dic h1 h2 e h3 h4 h5, q => .dic ((q _ List.mem_cons_self).1.trans h1) (q _ List.mem_cons_self).2 e (Owns.keep ef h3 fun a h => q a (List.mem_cons_of_mem _ h)) h4 h5
  | _, _, _, _, .dicT h1 h2 e h3 h4 h5, q => .dicT ((q _ List.mem_cons_self).1.trans h1) (q _ List.mem_cons_self).2 e (Owns.keep ef h3 fun a h => q a (List.mem_cons_of_mem _ h)) h4 h5
theorem Owns.keep (ef : Ex F F') : ∀ {k : Nat} {vs : List V} {ds : List D} {fp : List Addr}, Owns K F H k vs ds fp → (∀ a ∈ fp, H' a = H a ∧ F' a = none) → Owns K F' H' k vs ds fp
  | _, _, _, _, .nil, _ => .nil
  | _, _, _, _, .cons h1 h2 h3, q => .cons (Own.keep ef h1 fun a h => q a (List.mem_append_left _ h)) (Owns.keep ef h2 fun a h => q a (List.mem_append_right _ h)) h3
end
theorem Own.stp {k : Nat} {v : V} {d : D} {fp : List Addr} (h : Own K F H k v d fp) (st : Stp F H F' H') : Own K F' H' k v d fp := h.keep st.ff fun a ha => by
  obtain ⟨h1, o, h2, _⟩ := h.loose a ha
  refine ⟨by rw [h2]; exact st.hh a o h2, ?_⟩
  cases q : F' a with
  | none => rfl
  | some u =>
    rcases st.nw a (by rw [q]; exact fun z => nomatch z) with z | z
    · exact absurd h1 z
    · rw [h2] at z; cases z
/-- freezing: F with the objects at fp -/
def frzAt (F H : Hp) (fp : List Addr) : Hp := fun a => if a ∈ fp then H a else F a
theorem frzAt_in {fp : List Addr} {a : Addr} (h : a ∈ fp) : frzAt F H fp a = H a := if_pos h
theorem frzAt_out {fp : List Addr} {a : Addr} (h : a ∉ fp) : frzAt F H fp a = F a := if_neg h
theorem frzAt_ex {fp : List Addr} (hl : ∀ a ∈ fp, F a = none) : Ex F (frzAt F H fp) := fun a o h => by
  by_cases z : a ∈ fp
  · rw [hl a z] at h; cases h
  · rw [frzAt_out z]; exact h
theorem frzAt_sub {fp : List Addr} (e : Ex F H) : Ex (frzAt F H fp) H := fun a o h => by
  by_cases z : a ∈ fp
  · rw [frzAt_in z] at h; exact h
  · rw [frzAt_out z] at h; exact e a o h
mutual
theorem Own.dat {G : Hp} (eg : Ex F G) : ∀ {k : Nat} {v : V} {d : D} {fp : List Addr}, Own K F H k v d fp → (∀ a ∈ fp, G a = H a) → Dat K G v d
  | _, _, _, _, .frz h, _ => h.mono eg
  | _, _, _, _, .sc _ h, _ => h.mono eg
  | _, _, _, _, .lst h1 h2 h3 h4 h5, q => .lst ((q _ List.mem_cons_self).trans h1) (Owns.dat eg h3 fun a h => q a (List.mem_cons_of_mem _ h)) h5
  | _, _, _, _, .dic h1 h2 e h3 h4 h5, q => .dic (.of ((q _ List.mem_cons_self).trans h1)) e (Owns.dat eg h3 fun a h => q a (List.mem_cons_of_mem _ h)) h5
  | _, _, _, _, .dicT h1 h2 e h3 h4 h5, q => .dicT ((q _ List.mem_cons_self).trans h1) e (Owns.dat eg h3 fun a h => q a (List.mem_cons_of_mem _ h)) h5
theorem Owns.dat {G : Hp} (eg : Ex F G) : ∀ {k : Nat} {vs : List V} {ds : List D} {fp : List Addr}, Owns K F H k vs ds fp → (∀ a ∈ fp, G a = H a) → Dats K G vs ds
  | _, _, _, _, .nil, _ => .nil
  | _, _, _, _, .cons h1 h2 _, q => .cons (Own.dat eg h1 fun a h => q a (List.mem_append_left _ h)) (Owns.dat eg h2 fun a h => q a (List.mem_append_right _ h))
end
/-- a freshly made tree, frozen -/
theorem Own.freeze {H0 F0 : Hp} {k : Nat} {v : V} {d : D} {fp : List Addr} (h : Own K F H k v d fp) (st : Stp F0 H0 F H) (fr : ∀ a ∈ fp, H0 a = none) : Stp F0 H0 (frzAt F H fp) H ∧ Dat K (frzAt F H fp) v d := by
  have hl : ∀ a ∈ fp, F a = none := fun a ha => (h.loose a ha).1
  refine ⟨⟨st.ff.trans (frzAt_ex hl), st.hh, frzAt_sub st.fh, fun a q => ?_⟩, h.dat (frzAt_ex hl) fun a ha => frzAt_in ha⟩
  by_cases z : a ∈ fp
  · exact .inr (fr a z)
  · rw [frzAt_out z] at q; exact st.nw a q
end

/-! ### strongest readings -/
def WE (X : Cx) (e : Expr) : TE := fun σ H Q => ∀ pins s, Inv X pins σ H s → wpAny (model X.prog X.w) X.A (eval e X.env) (EP X pins σ Q) X.xe s
theorem pe_W {X : Cx} {e : Expr} : PE X e (WE X e) := ⟨fun pins s _ _ _ I h => h pins s I⟩
theorem w_of {X : Cx} {e : Expr} {t : TE} (h : PE X e t) {σ : L2.St} {H : Hp} {Q : VK} (q : t σ H Q) : WE X e σ H Q := fun pins s I => h.run pins s σ H Q I q
def WT (X : Cx) (e : Expr) : TT := fun σ H Q => ∀ pins s, Inv X pins σ H s → wpAny (model X.prog X.w) X.A (isTrue e X.env (eval e X.env)) (TP X pins σ Q) X.xe s
theorem pt_W {X : Cx} {e : Expr} : PT X e (WT X e) := ⟨fun pins s _ _ _ I h => h pins s I⟩
theorem wt_of {X : Cx} {e : Expr} {t : TT} (h : PT X e t) {σ : L2.St} {H : Hp} {Q : Bool → Hp → Prop} (q : t σ H Q) : WT X e σ H Q := fun pins s I => h.run pins s σ H Q I q
def WS (X : Cx) (st : Stmt) : TS := fun D σ H => ∀ pins s, Inv X pins σ H s → wpAny (model X.prog X.w) X.A (exec st X.env) (SP X pins D) X.xe s
theorem ps_W {X : Cx} {st : Stmt} : PS X st (WS X st) := ⟨fun pins s _ _ _ I h => h pins s I⟩
theorem ws_of {X : Cx} {st : Stmt} {t : TS} (h : PS X st t) {σ : L2.St} {H : Hp} {D : Ends} (q : t D σ H) : WS X st D σ H := fun pins s I => h.run pins s σ H D I q
def WSs (X : Cx) (st : List Stmt) : TS := fun D σ H => ∀ pins s, Inv X pins σ H s → wpAny (model X.prog X.w) X.A (execs st X.env) (SP X pins D) X.xe s
theorem pss_W {X : Cx} {st : List Stmt} : PSs X st (WSs X st) := ⟨fun pins s _ _ _ I h => h pins s I⟩
theorem wss_of {X : Cx} {st : List Stmt} {t : TS} (h : PSs X st t) {σ : L2.St} {H : Hp} {D : Ends} (q : t D σ H) : WSs X st D σ H := fun pins s I => h.run pins s σ H D I q
def WA (X : Cx) (es : List Expr) : TA := fun σ H Q => ∀ pos pins s, Inv X pins σ H s → wpAny (model X.prog X.w) X.A (spliced (backTo pos (starEach es X.env))) (AP X pins σ Q) X.xe s
theorem pa_W {X : Cx} {es : List Expr} : PA X es (WA X es) := ⟨fun pos pins s _ _ _ I h => h pos pins s I⟩
theorem wa_of {X : Cx} {es : List Expr} {t : TA} (h : PA X es t) {σ : L2.St} {H : Hp} {Q : List V → Hp → Prop} (q : t σ H Q) : WA X es σ H Q := fun pos pins s I => h.run pos pins s σ H Q I q

/-! ### evaluation to data -/
/-- e gives d, k deep owned, from any heap over F -/
def EvD (X : Cx) (e : Expr) (σ : L2.St) (F : Hp) (k : Nat) (d : D) : Prop :=
  ∀ F1 H, Ex F F1 → Ex F1 H → ∀ Q : VK, (∀ v F2 H2 fp, Stp F1 H F2 H2 → Own X.K F2 H2 k v d fp → (∀ a ∈ fp, H a = none) → Q v H2) → WE X e σ H Q
def EvZ (X : Cx) (e : Expr) (σ : L2.St) (F : Hp) (d : D) : Prop :=
  ∀ F1 H, Ex F F1 → Ex F1 H → ∀ Q : VK, (∀ v F2 H2, Stp F1 H F2 H2 → Dat X.K F2 v d → Q v H2) → WE X e σ H Q
def EvT (X : Cx) (e : Expr) (σ : L2.St) (F : Hp) (b : Bool) : Prop :=
  ∀ F1 H, Ex F F1 → Ex F1 H → ∀ Q : Bool → Hp → Prop, (∀ F2 H2, Stp F1 H F2 H2 → Q b H2) → WT X e σ H Q
def EvA (X : Cx) (es : List Expr) (σ : L2.St) (F : Hp) (ds : List D) : Prop :=
  ∀ F1 H, Ex F F1 → Ex F1 H → ∀ Q : List V → Hp → Prop, (∀ vs F2 H2, Stp F1 H F2 H2 → Dats X.K F2 vs ds → Q vs H2) → WA X es σ H Q
theorem EvD.z {X : Cx} {e : Expr} {σ : L2.St} {F : Hp} {k : Nat} {d : D} (h : EvD X e σ F k d) : EvZ X e σ F d := fun F1 H e1 e2 Q q =>
  h F1 H e1 e2 Q fun v F2 H2 fp st o fr => by
    obtain ⟨s2, dd⟩ := o.freeze st fr
    exact q v _ H2 s2 dd
theorem EvZ.d {X : Cx} {e : Expr} {σ : L2.St} {F : Hp} {d : D} (h : EvZ X e σ F d) : EvD X e σ F 0 d := fun F1 H e1 e2 Q q =>
  h F1 H e1 e2 Q fun v F2 H2 st dd => q v F2 H2 [] st (.frz dd) (by simp)
theorem EvZ.mono {X : Cx} {e : Expr} {σ : L2.St} {F F' : Hp} {d : D} (h : EvZ X e σ F d) (x : Ex F F') : EvZ X e σ F' d := fun F1 H e1 e2 Q q => h F1 H (x.trans e1) e2 Q q
theorem EvD.mono {X : Cx} {e : Expr} {σ : L2.St} {F F' : Hp} {k : Nat} {d : D} (h : EvD X e σ F k d) (x : Ex F F') : EvD X e σ F' k d := fun F1 H e1 e2 Q q => h F1 H (x.trans e1) e2 Q q
end PV

set_option Elab.async false
set_option linter.all false
set_option maxRecDepth 100000
/-! PV, part B: an own small syntax and its meaning over data. -/
namespace PV
open PySem PySem.Spec PyProof.Rows L2

mutual
def toPy : D → PyData
  | .non => .none | .bl b => .bool b | .int i => .int i | .str x => .str x
  | .lst ds => .list (toPys ds) | .tup ds => .tuple (toPys ds)
  | .rol ns => .list (ns.map PyData.int)
  | .rot ds => .tuple (toPys ds)
  | .dic _ => .dict [] | .dicT _ => .dict []
def toPys : List D → List PyData
  | [] => []
  | d :: ds => toPy d :: toPys ds
end
def flat : D → Bool
  | .non => true | .bl _ => true | .int _ => true | .str _ => true
  | _ => false
/-- == of flat data -/
def eqF : D → D → Bool
  | .non, .non => true
  | .bl a, .bl b => a == b
  | .bl a, .int b => (if a then 1 else 0) == b
  | .int a, .bl b => a == (if b then 1 else 0)
  | .int a, .int b => a == b
  | .str a, .str b => a == b
  | _, _ => false
def keyOf : D → Option Key
  | .int i => some (.inl i)
  | .str x => some (.inr x)
  | _ => none
def keysOf : List D → Option (List Key)
  | [] => some []
  | d :: ds => match keyOf d, keysOf ds with
    | some k, some ks => some (k :: ks)
    | _, _ => none
def dOfKey : Key → D
  | .inl i => .int i
  | .inr x => .str x
section
variable {κ : Type} [DecidableEq κ]
def valD (kvs : List (κ × D)) (k : κ) : Option D := (kvs.find? fun kv => decide (kv.1 = k)).map (·.2)
def putD (kvs : List (κ × D)) (k : κ) (v : D) : List (κ × D) :=
  if (kvs.any fun kv => decide (kv.1 = k)) = true then kvs.map fun kv => if kv.1 = k then (kv.1, v) else kv else kvs ++ [(k, v)]
def dropD (kvs : List (κ × D)) (k : κ) : List (κ × D) := kvs.filter fun kv => decide (kv.1 ≠ k)
end
def cutL {α : Type} (xs : List α) (lo hi : Option Int) : List α := (xs.drop (HT.sIx xs.length 0 lo)).take (HT.sIx xs.length xs.length hi - HT.sIx xs.length 0 lo)

inductive Bop | add | sub | mul | fdiv | mod | pow
  deriving DecidableEq
inductive Cop | eq | ne | lt | le | gt | ge | isin | notin | is_ | isnot
  deriving DecidableEq
inductive Bf | len | all | any | list | tuple | lenset | isint | isbool | islist | istuple | isstr | listvals
  deriving DecidableEq
inductive Tg | one (i : Nat) | many (is : List Nat)
  deriving DecidableEq

inductive Exp where
  | var (i : Nat)
  | glob (x : Str)
  | non | bl (b : Bool) | int (i : Int) | str (x : Str)
  | bin (o : Bop) (a b : Exp)
  | neg (a : Exp)
  | nt (a : Exp)
  | and_ (a b : Exp) | or_ (a b : Exp)
  | cmp (o : Cop) (a b : Exp)
  | chain (o p : Cop) (a b c : Exp)
  | ife (t a b : Exp)
  | call (f : Str) (as : Exp) (ks : List Str) (ws : Exp)
  | blt (f : Bf) (a : Exp)
  | index (a b : Exp)
  | idx (a b : Exp) | slc (a lo hi : Exp)
  | lst (as : Exp) | tup (as : Exp) | dnew | dpair (k v : Exp)
  | lc (own : List Nat) (tg : Tg) (it cond elt : Exp)
  | dc (own : List Nat) (tg : Tg) (it cond k v : Exp)
  | rng (a : Exp) | enm (a : Exp) | zp (a b : Exp)
  | yes | itr (a : Exp) | itn (a : Exp)
  | nil | cons (a b : Exp)
  deriving DecidableEq

def addD : D → D → Option (Nat × D)
  | .int i, .int j => some (0, .int (i + j))
  | .str x, .str y => if x.length + y.length ≤ cap then some (0, .str (x ++ y)) else none
  | .lst xs, .lst ys => if xs.length + ys.length ≤ cap then some (1, .lst (xs ++ ys)) else none
  | .tup xs, .tup ys => if xs.length + ys.length ≤ cap then some (0, .tup (xs ++ ys)) else none
  | _, _ => none
def mulD : D → D → Option (Nat × D)
  | .int i, .int j => if (-(2 ^ 64) < i ∧ i < 2 ^ 64) ∨ (-(2 ^ 64) < j ∧ j < 2 ^ 64) then some (0, .int (i * j)) else none
  | .lst xs, .int k => if 0 ≤ k ∧ k ≤ cap ∧ xs.length * k.toNat ≤ cap then some (1, .lst (List.replicate k.toNat xs).flatten) else none
  | _, _ => none
def binD : Bop → D → D → Option (Nat × D)
  | .add, a, b => addD a b
  | .mul, a, b => mulD a b
  | .sub, .int i, .int j => some (0, .int (i - j))
  | .fdiv, .int i, .int j => if 0 < j ∧ j < 1073741824 then some (0, .int (i / j)) else none
  | .mod, .int i, .int j => if 0 < j then some (0, .int (i % j)) else none
  | .pow, .int i, .int j => if 0 ≤ j ∧ j ≤ 1000000 ∧ i.natAbs < 2 ^ 64 then some (0, .int (i ^ j.toNat)) else none
  | _, _, _ => none
def eqD (a b : D) : Option Bool :=
  match a, b with
  | .dic xs, .dic [] => some xs.isEmpty
  | a, b => if SeqAt.shaped (toPy a) = true ∧ SeqAt.shaped (toPy b) = true then some (PyData.eqv (toPy a) (toPy b)) else none
def inD (x : D) : D → Option Bool
  | .lst ds => if flat x = true ∧ ds.all flat = true then some (ds.any fun y => eqF y x) else none
  | .tup ds => if flat x = true ∧ ds.all flat = true then some (ds.any fun y => eqF y x) else none
  | .rot ds => if flat x = true ∧ ds.all flat = true then some (ds.any fun y => eqF y x) else none
  | .dic kvs => match keyOf x with
    | some k => some (valD kvs k).isSome
    | none => none
  | .dicT kvs => match x with
    | .tup ds => match keysOf ds with
      | some k => some (valD kvs k).isSome
      | none => none
    | _ => none
  | _ => none
def isNon : D → Bool
  | .non => true
  | _ => false
def cmpD : Cop → D → D → Option Bool
  | .eq, a, b => eqD a b
  | .ne, a, b => (eqD a b).map (!·)
  | .lt, .int i, .int j => some (decide (i < j))
  | .le, .int i, .int j => some (decide (i ≤ j))
  | .gt, .int i, .int j => some (decide (j < i))
  | .ge, .int i, .int j => some (decide (j ≤ i))
  | .isin, a, b => inD a b
  | .notin, a, b => (inD a b).map (!·)
  | .is_, a, .non => some (isNon a)
  | .isnot, a, .non => some (!isNon a)
  | _, _, _ => none
def idxD : D → D → Option D
  | .lst ds, .int i => atI ds i
  | .tup ds, .int i => atI ds i
  | .rot ds, .int i => atI ds i
  | .rol ns, .int i => (atI ns i).map D.int
  | .dic kvs, k => (keyOf k).bind (valD kvs)
  | _, _ => none
def slcD : D → Option Int → Option Int → Option (Nat × D)
  | .lst ds, lo, hi => some (1, .lst (cutL ds lo hi))
  | .tup ds, lo, hi => some (0, .tup (cutL ds lo hi))
  | _, _, _ => none
def intsD : List D → Option (List Int)
  | [] => some []
  | .int i :: ds => (intsD ds).map (i :: ·)
  | _ :: _ => none
def bools : List D → Option (List Bool)
  | [] => some []
  | .bl i :: ds => (bools ds).map (i :: ·)
  | _ :: _ => none
def lenD : D → Option Int
  | .lst ds => some ds.length
  | .tup ds => some ds.length
  | .rot ds => some ds.length
  | .rol ns => some ns.length
  | .dic kvs => some kvs.length
  | .str x => if x.length ≤ cap then some x.length else none
  | _ => none
def setSize (ns : List Int) : Int := ((PyProof.Rows.firstMet (fun i => ns.getD i 0) ns.length).length : Nat)
def bltD : Bf → D → Option (Nat × D)
  | .len, d => (lenD d).map fun n => (0, .int n)
  | .all, .lst ds => (bools ds).map fun bs => (0, .bl (bs.all id))
  | .any, .lst ds => (bools ds).map fun bs => (0, .bl (bs.any id))
  | .list, .lst ds => some (1, .lst ds)
  | .list, .tup ds => some (1, .lst ds)
  | .list, .rot ds => some (1, .lst ds)
  | .list, .dic kvs => some (1, .lst (kvs.map fun kv => dOfKey kv.1))
  | .listvals, .dic kvs => some (1, .lst (kvs.map (·.2)))
  | .tuple, .lst ds => some (0, .tup ds)
  | .tuple, .tup ds => some (0, .tup ds)
  | .lenset, .lst ds => match intsD ds with
    | some ns => if ns.length ≤ 4000 then some (0, .int (setSize ns)) else none
    | none => none
  | .isint, d => some (0, .bl (match d with | .int _ => true | .bl _ => true | _ => false))
  | .isbool, d => some (0, .bl (match d with | .bl _ => true | _ => false))
  | .islist, d => some (0, .bl (match d with | .lst _ => true | .rol _ => true | _ => false))
  | .istuple, d => some (0, .bl (match d with | .tup _ => true | .rot _ => true | _ => false))
  | .isstr, d => some (0, .bl (match d with | .str _ => true | _ => false))
  | _, _ => none
def indexD : List D → D → Option Nat
  | [], _ => none
  | y :: ys, x => if eqF y x = true then some 0 else (indexD ys x).map (· + 1)

abbrev Ro := List (Option D)
def wipeR (ρ : Ro) : List Nat → Ro
  | [] => ρ
  | i :: is => (wipeR ρ is).set i none
def asgs : List Nat → List D → Ro → Ro
  | i :: is, d :: ds, ρ => asgs is ds (ρ.set i (some d))
  | _, _, ρ => ρ
def asg : Tg → D → Ro → Option Ro
  | .one i, d, ρ => some (ρ.set i (some d))
  | .many is, .tup ds, ρ => if ds.length = is.length then some (asgs is ds ρ) else none
  | .many _, _, _ => none
/-- the turns of a list comprehension -/
def lcL (tg : Tg) (t : Ro → Option (Nat × D)) (g : Ro → Option (Nat × D)) (ρ : Ro) : List D → Option (List D)
  | [] => some []
  | d :: ds => match asg tg d ρ with
    | none => none
    | some ρ1 => match t ρ1 with
      | some (_, .bl true) => match g ρ1 with
        | some (_, y) => match lcL tg t g ρ ds with
          | some ys => some (y :: ys)
          | none => none
        | none => none
      | some (_, .bl false) => lcL tg t g ρ ds
      | _ => none
/-- the turns of a dict comprehension -/
def dcL (tg : Tg) (t : Ro → Option (Nat × D)) (gk gv : Ro → Option (Nat × D)) (ρ : Ro) : List D → List (Key × D) → Option (List (Key × D))
  | [], acc => some acc
  | d :: ds, acc => match asg tg d ρ with
    | none => none
    | some ρ1 => match t ρ1 with
      | some (_, .bl true) => match gk ρ1, gv ρ1 with
        | some (_, k), some (_, v) => match keyOf k with
          | some k => dcL tg t gk gv ρ ds (putD acc k v)
          | none => none
        | _, _ => none
      | some (_, .bl false) => dcL tg t gk gv ρ ds acc
      | _ => none
def enumD (n : Nat) : List D → List D
  | [] => []
  | d :: ds => .tup [.int n, d] :: enumD (n + 1) ds
def zipD : List D → List D → List D
  | a :: as, b :: bs => .tup [a, b] :: zipD as bs
  | _, _ => []
def rngD (n : Int) : List D := (List.range n.toNat).map fun i => .int (i : Nat)

section
/-! the defs: name, positional arguments, keywords -/
variable (C : Str → List D → List Str → List D → Option (Nat × D)) (G : Str → Option D)
mutual
def ev : Exp → Ro → Option (Nat × D)
  | .var i, ρ => match ρ[i]? with
    | some (some d) => some (0, d)
    | _ => none
  | .glob x, _ => (G x).map fun d => (0, d)
  | .non, _ => some (0, .non)
  | .bl b, _ => some (0, .bl b)
  | .int i, _ => some (0, .int i)
  | .str x, _ => some (0, .str x)
  | .bin o a b, ρ => match ev a ρ, ev b ρ with
    | some (_, x), some (_, y) => binD o x y
    | _, _ => none
  | .neg a, ρ => match ev a ρ with
    | some (_, .int i) => some (0, .int (-i))
    | _ => none
  | .nt a, ρ => match ev a ρ with
    | some (_, .bl b) => some (0, .bl (!b))
    | _ => none
  | .and_ a b, ρ => match ev a ρ with
    | some (_, .bl true) => match ev b ρ with
      | some (_, .bl c) => some (0, .bl c)
      | _ => none
    | some (_, .bl false) => some (0, .bl false)
    | _ => none
  | .or_ a b, ρ => match ev a ρ with
    | some (_, .bl false) => match ev b ρ with
      | some (_, .bl c) => some (0, .bl c)
      | _ => none
    | some (_, .bl true) => some (0, .bl true)
    | _ => none
  | .cmp o a b, ρ => match ev a ρ, ev b ρ with
    | some (_, x), some (_, y) => (cmpD o x y).map fun c => (0, .bl c)
    | _, _ => none
  | .chain o p a b c, ρ => match ev a ρ, ev b ρ with
    | some (_, x), some (_, y) => match cmpD o x y with
      | some true => match ev c ρ with
        | some (_, z) => (cmpD p y z).map fun c => (0, .bl c)
        | none => none
      | some false => some (0, .bl false)
      | none => none
    | _, _ => none
  | .ife t a b, ρ => match ev t ρ with
    | some (_, .bl true) => ev a ρ
    | some (_, .bl false) => ev b ρ
    | _ => none
  | .call f as ks ws, ρ => match evs as ρ, evs ws ρ with
    | some ds, some es => C f ds ks es
    | _, _ => none
  | .blt f a, ρ => match ev a ρ with
    | some (_, d) => bltD f d
    | none => none
  | .index a b, ρ => match ev a ρ, ev b ρ with
    | some (_, .lst ds), some (_, x) => if flat x = true ∧ ds.all flat = true then (indexD ds x).map fun n => (0, .int (n : Nat)) else none
    | _, _ => none
  | .idx a b, ρ => match ev a ρ, ev b ρ with
    | some (_, x), some (_, y) => (idxD x y).map fun d => (0, d)
    | _, _ => none
  | .slc a lo hi, ρ => match ev a ρ, evO lo ρ, evO hi ρ with
    | some (_, x), some l, some h => slcD x l h
    | _, _, _ => none
  | .lst as, ρ => match evs as ρ with
    | some ds => if ds.length ≤ cap then some (1, .lst ds) else none
    | none => none
  | .tup as, ρ => match evs as ρ with
    | some ds => if ds.length ≤ cap then some (0, .tup ds) else none
    | none => none
  | .dnew, _ => some (1, .dic [])
  | .dpair k v, ρ => match ev k ρ, ev v ρ with
    | some (_, .tup ks), some (_, v) => match keysOf ks with
      | some k => some (1, .dicT [(k, v)])
      | none => none
    | _, _ => none
  | .lc own tg it cond elt, ρ => match evI it ρ with
    | some ds => (lcL tg (fun r => ev cond r) (fun r => ev elt r) (wipeR ρ own) ds).map fun ys => (1, .lst ys)
    | none => none
  | .dc own tg it cond k v, ρ => match evI it ρ with
    | some ds => (dcL tg (fun r => ev cond r) (fun r => ev k r) (fun r => ev v r) (wipeR ρ own) ds []).map fun ys => (1, .dic ys)
    | none => none
  | .yes, _ => some (0, .bl true)
  | .itr _, _ => none
  | .itn _, _ => none
  | .rng _, _ => none
  | .enm _, _ => none
  | .zp _ _, _ => none
  | .nil, _ => none
  | .cons _ _, _ => none
def evs : Exp → Ro → Option (List D)
  | .nil, _ => some []
  | .cons a b, ρ => match ev a ρ, evs b ρ with
    | some (_, d), some ds => some (d :: ds)
    | _, _ => none
  | _, _ => none
/-- the items that are walked -/
def evI : Exp → Ro → Option (List D)
  | .rng a, ρ => match ev a ρ with
    | some (_, .int n) => if n ≤ cap ∧ -(2 ^ 62) ≤ n then some (rngD n) else none
    | _ => none
  | .enm a, ρ => match ev a ρ with
    | some (_, .lst ds) => some (enumD 0 ds)
    | _ => none
  | .zp a b, ρ => match ev a ρ, ev b ρ with
    | some (_, .lst ds), some (_, .lst es) => some (zipD ds es)
    | _, _ => none
  | .itn e, ρ => match ev e ρ with
    | some (_, .lst ds) => some ds
    | some (_, .tup ds) => some ds
    | some (_, .rot ds) => some ds
    | _ => none
  | .itr e, ρ => match ev e ρ with
    | some (_, .lst ds) => some ds
    | some (_, .tup ds) => some ds
    | some (_, .rot ds) => some ds
    | some (_, .dic kvs) => match e with
      | .var _ => some (kvs.map fun kv => dOfKey kv.1)
      | _ => none
    | _ => none
  | _, _ => none
def evO : Exp → Ro → Option (Option Int)
  | .nil, _ => some none
  | .itr e, ρ => match ev e ρ with
    | some (_, .int i) => some (some i)
    | _ => none
  | _, _ => none
end
end
end PV

set_option Elab.async false
set_option linter.all false
set_option maxRecDepth 100000
set_option maxHeartbeats 1000000
/-! PV, part C: the rules for expressions. -/
namespace PV
open PySem PySem.Spec PyProof.Rows L2

/-! ### strongest readings of operators -/
def WO (X : Cx) (f : Value → Value → Sem Value) : R2 := fun x y H Q => ∀ pins s σ v u, Inv X pins σ H s → RelV x v → RelV y u → wpAny (model X.prog X.w) X.A (f v u) (EP X pins σ Q) X.xe s
theorem op_W {X : Cx} {f : Value → Value → Sem Value} : OpR X f (WO X f) := fun pins s σ H x y v u Q I rx ry h => h pins s σ v u I rx ry
theorem wo_of {X : Cx} {f : Value → Value → Sem Value} {r : R2} (h : OpR X f r) {x y : V} {H : Hp} {Q : VK} (q : r x y H Q) : WO X f x y H Q := fun pins s σ v u I rx ry => h pins s σ H x y v u Q I rx ry q
def WC (X : Cx) (f : Value) : List V → Hp → VK → Prop := fun xs H Q => ∀ pins s σ us, Inv X pins σ H s → Vals xs us → wpAny (model X.prog X.w) X.A (call f us) (EP X pins σ Q) X.xe s
theorem cr_W {X : Cx} {f : Value} : CallR X f (WC X f) := fun pins s σ H xs us Q I r h => h pins s σ us I r
theorem wc_of {X : Cx} {f : Value} {r : List V → Hp → VK → Prop} (h : CallR X f r) {xs : List V} {H : Hp} {Q : VK} (q : r xs H Q) : WC X f xs H Q := fun pins s σ us I rv => h pins s σ H xs us Q I rv q

section
variable {X : Cx} {e a b c : Expr} {σ : L2.St} {F F1 H : Hp} {d x y z : D} {k : Nat} {pos : Pos}

/-! ### new objects -/
theorem own_lst {K : PySem.W.Frag} {F H : Hp} {p : Addr} {vs : List V} {ds : List D} (fh : Ex F H) (hp : H p = none) (h : Dats K F vs ds) (hl : ds.length ≤ cap) : Own K F (upd H p (.lst vs)) 1 (.ref p) (.lst ds) [p] :=
  .lst upd_same (fh.free hp) (owns_zero h) (by simp) hl
theorem own_dic {K : PySem.W.Frag} {F H : Hp} {p : Addr} {kvs : List (Key × V)} {ds : List (Key × D)} (fh : Ex F H) (hp : H p = none) (e : kvs.map (·.1) = ds.map (·.1)) (h : Dats K F (kvs.map (·.2)) (ds.map (·.2))) (hl : ds.length ≤ cap) : Own K F (upd H p (.dK kvs)) 1 (.ref p) (.dic ds) [p] :=
  .dic upd_same (fh.free hp) e (owns_zero h) (by simp) hl
theorem dat_tup {K : PySem.W.Frag} {F H : Hp} {p : Addr} {vs : List V} {ds : List D} (fh : Ex F H) (hp : H p = none) (h : Dats K F vs ds) (hl : ds.length ≤ cap) : Dat K (upd F p (.tup vs)) (.ref p) (.tup ds) :=
  .tup upd_same (h.mono (.new (fh.free hp))) hl
/-- hand over a new list -/
theorem give_lst {Q : VK} {F2 H2 : Hp} {p : Addr} {vs : List V} {ds : List D}
    (q : ∀ v F2 H2 fp, Stp F1 H F2 H2 → Own X.K F2 H2 1 v (.lst ds) fp → (∀ a ∈ fp, H a = none) → Q v H2) (st : Stp F1 H F2 H2) (hp : H2 p = none) (h : Dats X.K F2 vs ds) (hl : ds.length ≤ cap) : Q (.ref p) (upd H2 p (.lst vs)) :=
  q _ _ _ [p] (st.trans (.loose st.fh hp)) (own_lst st.fh hp h hl) (fun a ha => by
    have e : a = p := by simpa using ha
    rw [e]; exact st.hh.free hp)
theorem give_dic {Q : VK} {F2 H2 : Hp} {p : Addr} {kvs : List (Key × V)} {ds : List (Key × D)}
    (q : ∀ v F2 H2 fp, Stp F1 H F2 H2 → Own X.K F2 H2 1 v (.dic ds) fp → (∀ a ∈ fp, H a = none) → Q v H2) (st : Stp F1 H F2 H2) (hp : H2 p = none) (e : kvs.map (·.1) = ds.map (·.1)) (h : Dats X.K F2 (kvs.map (·.2)) (ds.map (·.2))) (hl : ds.length ≤ cap) : Q (.ref p) (upd H2 p (.dK kvs)) :=
  q _ _ _ [p] (st.trans (.loose st.fh hp)) (own_dic st.fh hp e h hl) (fun a ha => by
    have e : a = p := by simpa using ha
    rw [e]; exact st.hh.free hp)
theorem give_tup {Q : VK} {F2 H2 : Hp} {p : Addr} {vs : List V} {ds : List D}
    (q : ∀ v F2 H2 fp, Stp F1 H F2 H2 → Own X.K F2 H2 0 v (.tup ds) fp → (∀ a ∈ fp, H a = none) → Q v H2) (st : Stp F1 H F2 H2) (hp : H2 p = none) (h : Dats X.K F2 vs ds) (hl : ds.length ≤ cap) : Q (.ref p) (upd H2 p (.tup vs)) :=
  q _ _ _ [] (st.trans (.new st.fh hp)) (.frz (dat_tup st.fh hp h hl)) (by simp)
theorem give {Q : VK} {F2 H2 : Hp} {v : V} (q : ∀ v F2 H2 fp, Stp F1 H F2 H2 → Own X.K F2 H2 0 v d fp → (∀ a ∈ fp, H a = none) → Q v H2) (st : Stp F1 H F2 H2) (h : Dat X.K F2 v d) : Q v H2 :=
  q v F2 H2 [] st (.frz h) (by simp)

/-! ### two in a row -/
theorem ev2 (ha : EvZ X a σ F x) (hb : EvZ X b σ F y) (e1 : Ex F F1) (e2 : Ex F1 H) {R : V → V → Hp → Prop} (h : ∀ v u F2 H2, Stp F1 H F2 H2 → Dat X.K F2 v x → Dat X.K F2 u y → R v u H2) :
    WE X a σ H fun v H1 => WE X b σ H1 fun u H2 => R v u H2 :=
  ha F1 H e1 e2 _ fun v F2 H2 st1 d1 => hb F2 H2 (e1.trans st1.ff) st1.fh _ fun u F3 H3 st2 d2 => h v u F3 H3 (st1.trans st2) (d1.mono st2.ff) d2

/-! ### names, constants -/
theorem ev_var {i : Nat} {n : Str} {v : V} (hN : X.N[i]? = some n) (hv : Vis X.env.scope n) (hd : (n == ("__debug__" : Str)) = false) (hcd : (n == ("__classdict__" : Str)) = false) (hs : σ[i]? = some (some v)) (h : Dat X.K F v d) : EvD X (.Name n pos) σ F 0 d :=
  fun F1 H e1 e2 Q q => w_of (pe_var hN hv hd hcd) ⟨v, hs, give q (.refl e2) (h.mono e1)⟩
theorem ev_glob {n : Str} {v : V} {u : Value} (hg : Gl X n) (hm : X.mg n = some u) (r : RelV v u) (h : ∀ F, Dat X.K F v d) (hd : (n == ("__debug__" : Str)) = false) : EvD X (.Name n pos) σ F 0 d :=
  fun F1 H e1 e2 Q q => w_of (pe_glob hg hm r hd) (show Q v H from give q (.refl e2) (h _))
theorem ev_int {i : Int} {j : Nat} : EvD X (.Constant (.int i) j pos) σ F 0 (.int i) := fun F1 H e1 e2 Q q => w_of pe_int (show Q (.int i) H from give q (.refl e2) (.int i))
theorem ev_bl {i : Bool} {j : Nat} : EvD X (.Constant (.bool i) j pos) σ F 0 (.bl i) := fun F1 H e1 e2 Q q => w_of pe_bl (show Q (.bl i) H from give q (.refl e2) (.bl i))
theorem ev_non {j : Nat} : EvD X (.Constant .none j pos) σ F 0 .non := fun F1 H e1 e2 Q q => w_of pe_non (show Q .non H from give q (.refl e2) .non)
theorem ev_str {i : Str} {j : Nat} : EvD X (.Constant (.str i) j pos) σ F 0 (.str i) := fun F1 H e1 e2 Q q => w_of pe_str (show Q (.str i) H from give q (.refl e2) (.str i))

/-! ### arithmetic, +, * -/
theorem ev_opI {op : Operator} {r : R2} {i j l : Int} (ho : OpR X (binaryOp op) r) (hr : ∀ H Q, Q (.int l) H → r (.int i) (.int j) H Q) (ha : EvZ X a σ F (.int i)) (hb : EvZ X b σ F (.int j)) : EvD X (.BinOp a op b pos) σ F 0 (.int l) :=
  fun F1 H e1 e2 Q q => w_of (pe_op ho pe_W pe_W) (ev2 ha hb e1 e2 fun v u F2 H2 st d1 d2 => by
    cases d1; cases d2
    exact hr H2 Q (give q st (.int l)))
theorem Dats.flat_rep {K : PySem.W.Frag} {F : Hp} {vs : List V} {ds : List D} (h : Dats K F vs ds) : ∀ n : Nat, Dats K F (List.replicate n vs).flatten (List.replicate n ds).flatten
  | 0 => .nil
  | n + 1 => by rw [List.replicate_succ, List.replicate_succ, List.flatten_cons, List.flatten_cons]; exact h.app (flat_rep h n)
theorem ev_add (ha : EvZ X a σ F x) (hb : EvZ X b σ F y) (h : addD x y = some (k, d)) : EvD X (.BinOp a .Add b pos) σ F k d := by
  intro F1 H e1 e2 Q q
  unfold addD at h
  split at h
  · cases h
    exact ev_opI op_add (fun H Q q => ⟨_, _, rfl, rfl, q⟩) ha hb F1 H e1 e2 Q q
  · split at h
    · cases h
      rename_i hl
      refine w_of (pe_op op_add_str pe_W pe_W) (ev2 ha hb e1 e2 fun v u F2 H2 st d1 d2 => ?_)
      cases d1; cases d2
      exact ⟨_, _, rfl, rfl, cap_le hl, give q st (.str _)⟩
    · cases h
  · split at h
    · cases h
      rename_i hl
      refine w_of (pe_op op_cat pe_W pe_W) (ev2 ha hb e1 e2 fun v u F2 H2 st d1 d2 => ?_)
      cases d1 with
      | lst h1 h2 h3 =>
        cases d2 with
        | lst g1 g2 g3 =>
          have l1 := h2.length
          have l2 := g2.length
          exact ⟨_, _, _, _, rfl, rfl, st.fh _ _ h1, st.fh _ _ g1, cap_le (by omega), fun p hp => give_lst q st hp (h2.app g2) (by rw [List.length_append]; omega)⟩
    · cases h
  · split at h
    · cases h
      rename_i hl
      refine w_of (pe_op op_catA pe_W pe_W) (ev2 ha hb e1 e2 fun v u F2 H2 st d1 d2 => ?_)
      cases d1 with
      | tup h1 h2 h3 =>
        cases d2 with
        | tup g1 g2 g3 =>
          have l1 := h2.length
          have l2 := g2.length
          refine ⟨_, _, _, _, rfl, rfl, .of (st.fh _ _ h1), .of (st.fh _ _ g1), cap_le (by omega), fun e => ?_, fun e e' => ?_, fun e e' p hp => give_tup q st hp (h2.app g2) (by rw [List.length_append]; omega)⟩
          · subst e
            cases h2
            exact give q st (.tup g1 g2 g3)
          · subst e'
            cases g2
            rw [List.append_nil] at q
            exact give q st (.tup h1 h2 h3)
    · cases h
  · cases h
theorem ev_mul (ha : EvZ X a σ F x) (hb : EvZ X b σ F y) (h : mulD x y = some (k, d)) : EvD X (.BinOp a .Mult b pos) σ F k d := by
  intro F1 H e1 e2 Q q
  unfold mulD at h
  split at h
  · split at h
    · cases h
      rename_i hl
      exact ev_opI op_mul (fun H Q q => ⟨_, _, rfl, rfl, hl, q⟩) ha hb F1 H e1 e2 Q q
    · cases h
  · split at h
    · cases h
      rename_i ds n hl
      refine w_of (pe_op op_rep pe_W pe_W) (ev2 ha hb e1 e2 fun v u F2 H2 st d1 d2 => ?_)
      cases d1 with
      | lst h1 h2 h3 =>
        cases d2
        have l1 := h2.length
        refine ⟨_, _, _, rfl, rfl, st.fh _ _ h1, ?_, ?_, cap_le (by rw [l1]; exact hl.2.2), fun p hp => give_lst q st hp (h2.flat_rep _) ?_⟩
        · have := hl.1; omega
        · have := hl.2.1; have : (cap : Int) = 100000 := rfl; omega
        · rw [List.length_flatten, List.map_replicate, List.sum_replicate_nat, Nat.mul_comm]; exact hl.2.2
    · cases h
  · cases h
theorem if_some {c : Prop} [Decidable c] {α : Type} {x y : α} (h : (if c then some x else none) = some y) : c ∧ x = y := by
  by_cases hc : c
  · rw [if_pos hc] at h; exact ⟨hc, Option.some.inj h⟩
  · rw [if_neg hc] at h; cases h
def opOf : Bop → Operator
  | .add => .Add | .sub => .Sub | .mul => .Mult | .fdiv => .FloorDiv | .mod => .Mod | .pow => .Pow
theorem ev_bin {o : Bop} (ha : EvZ X a σ F x) (hb : EvZ X b σ F y) (h : binD o x y = some (k, d)) : EvD X (.BinOp a (opOf o) b pos) σ F k d := by
  cases o with
  | add => exact ev_add ha hb h
  | mul => exact ev_mul ha hb h
  | sub =>
    cases x <;> try (cases (show (none : Option (Nat × D)) = some (k, d) from h))
    cases y <;> try (cases (show (none : Option (Nat × D)) = some (k, d) from h))
    cases h
    exact ev_opI op_sub (fun H Q q => ⟨_, _, rfl, rfl, q⟩) ha hb
  | fdiv =>
    cases x <;> try (cases (show (none : Option (Nat × D)) = some (k, d) from h))
    cases y <;> try (cases (show (none : Option (Nat × D)) = some (k, d) from h))
    rename_i i j
    obtain ⟨hl, e⟩ := if_some (show (if 0 < j ∧ j < 1073741824 then some (0, D.int (i / j)) else none) = some (k, d) from h)
    cases e
    exact ev_opI op_fdiv (fun H Q q => ⟨_, _, rfl, rfl, hl, q⟩) ha hb
  | mod =>
    cases x <;> try (cases (show (none : Option (Nat × D)) = some (k, d) from h))
    cases y <;> try (cases (show (none : Option (Nat × D)) = some (k, d) from h))
    rename_i i j
    obtain ⟨hl, e⟩ := if_some (show (if 0 < j then some (0, D.int (i % j)) else none) = some (k, d) from h)
    cases e
    exact ev_opI op_mod (fun H Q q => ⟨_, _, rfl, rfl, hl, q⟩) ha hb
  | pow =>
    cases x <;> try (cases (show (none : Option (Nat × D)) = some (k, d) from h))
    cases y <;> try (cases (show (none : Option (Nat × D)) = some (k, d) from h))
    rename_i i j
    obtain ⟨hl, e⟩ := if_some (show (if 0 ≤ j ∧ j ≤ 1000000 ∧ i.natAbs < 2 ^ 64 then some (0, D.int (i ^ j.toNat)) else none) = some (k, d) from h)
    cases e
    exact ev_opI op_pow (fun H Q q => ⟨_, _, rfl, rfl, hl, q⟩) ha hb
theorem ev_neg {i : Int} (ha : EvZ X a σ F (.int i)) : EvD X (.UnaryOp .USub a pos) σ F 0 (.int (-i)) := fun F1 H e1 e2 Q q => w_of (pe_un un_neg pe_W) (ha F1 H e1 e2 _ fun v F2 H2 st d1 => by
  cases d1
  exact ⟨_, rfl, give q st (.int _)⟩)

/-! ### tests -/
theorem EvT.val {t : Bool} (h : EvZ X e σ F (.bl t)) (he : ∀ whole, isTrue e X.env whole = (do let v ← whole; standAt e.pos; holding [v] (truthy v))) : EvT X e σ F t := fun F1 H e1 e2 Q q => wt_of (pt_val pe_W he) (h F1 H e1 e2 _ fun v F2 H2 st d1 => by
  cases d1
  exact ⟨_, rfl, q F2 H2 st⟩)
theorem ev_not {t : Bool} (h : EvZ X e σ F (.bl t)) : EvD X (.UnaryOp .Not e pos) σ F 0 (.bl (!t)) := fun F1 H e1 e2 Q q => w_of (pe_not pe_W) (h F1 H e1 e2 _ fun v F2 H2 st d1 => by
  cases d1
  exact ⟨_, rfl, give q st (.bl _)⟩)
theorem et_not {t : Bool} (h : EvT X e σ F t) : EvT X (.UnaryOp .Not e pos) σ F (!t) := fun F1 H e1 e2 Q q => wt_of (pt_not pt_W) (h F1 H e1 e2 _ fun F2 H2 st => q F2 H2 st)
theorem ev_ife {t : Bool} {c a b : Expr} (hc : EvT X c σ F t) (ht : t = true → EvD X a σ F k d) (hf : t = false → EvD X b σ F k d) : EvD X (.IfExp c a b pos) σ F k d := fun F1 H e1 e2 Q q => w_of (pe_ifExp pt_W pe_W pe_W) (hc F1 H e1 e2 _ fun F2 H2 st => by
  cases t with
  | true => exact iteT (ht rfl F2 H2 (e1.trans st.ff) st.fh _ fun v F3 H3 fp s2 o fr => q v F3 H3 fp (st.trans s2) o fun a ha => st.hh.free (fr a ha))
  | false => exact iteF (hf rfl F2 H2 (e1.trans st.ff) st.fh _ fun v F3 H3 fp s2 o fr => q v F3 H3 fp (st.trans s2) o fun a ha => st.hh.free (fr a ha)))
end
end PV

set_option Elab.async false
set_option linter.all false
set_option maxRecDepth 100000
set_option maxHeartbeats 1000000
/-! PV, part D: comparisons. -/
namespace PV
open PySem PySem.Spec PyProof.Rows L2
section
variable {K : PySem.W.Frag} {F H : Hp}
theorem dp_ints : ∀ ns : List Int, DpAll K H (ns.map V.int) (ns.map PyData.int)
  | [] => .nil
  | n :: r => .cons (.int n) (dp_ints r)
mutual
theorem Dat.dp (e : Ex F H) : ∀ {v : V} {d : D}, Dat K F v d → (toPy d).canLay0 = true → Dp K H v (toPy d)
  | _, _, .non, _ => .non
  | _, _, .bl b, _ => .bl b
  | _, _, .int i, _ => .int i
  | _, _, .str x, _ => .str x
  | _, _, .lst h1 h2 _, l => .lst (.of (e _ _ h1)) (Dats.dp e h2 (by simpa [toPy, PyData.canLay0] using l))
  | _, _, .tup h1 h2 _, l => .tup (.of (e _ _ h1)) (Dats.dp e h2 (by simpa [toPy, PyData.canLay0] using l))
  | _, _, .rot h1 h2 _, l => .tup (ex_t e h1) (Dats.dp e h2 (by simpa [toPy, PyData.canLay0] using l))
  | _, _, .rol h1 _, l => .lst (ex_l e h1) (dp_ints _)
  | _, _, .dic _ _ _ _, l => by simp [toPy, PyData.canLay0] at l
  | _, _, .dicT _ _ _ _, l => by simp [toPy, PyData.canLay0] at l
theorem Dats.dp (e : Ex F H) : ∀ {vs : List V} {ds : List D}, Dats K F vs ds → PyData.canLayAll0 (toPys ds) = true → DpAll K H vs (toPys ds)
  | _, _, .nil, _ => .nil
  | _, _, .cons h t, l => by
    simp only [toPys, PyData.canLayAll0, Bool.and_eq_true] at l
    exact .cons (Dat.dp e h l.1) (Dats.dp e t l.2)
end
theorem flat_dat {v : V} {d : D} (h : Dat K F v d) (f : flat d = true) : flatV v = true := by
  cases h <;> first | rfl | cases f
theorem flat_dats : ∀ {vs : List V} {ds : List D}, Dats K F vs ds → ds.all flat = true → vs.all flatV = true
  | _, _, .nil, _ => rfl
  | _, _, .cons h t, f => by
    rw [List.all_cons, Bool.and_eq_true] at f ⊢
    exact ⟨flat_dat h f.1, flat_dats t f.2⟩
theorem eqF_dat {v u : V} {d e : D} (h : Dat K F v d) (g : Dat K F u e) (f1 : flat d = true) (f2 : flat e = true) : eqV v u = eqF d e := by
  cases h <;> cases g <;> first | rfl | cases f1 | cases f2
theorem any_dat {u : V} {e : D} (g : Dat K F u e) (f2 : flat e = true) : ∀ {vs : List V} {ds : List D}, Dats K F vs ds → ds.all flat = true → inV u vs = ds.any fun y => eqF y e
  | _, _, .nil, _ => rfl
  | _, _, .cons h t, f => by
    rw [List.all_cons, Bool.and_eq_true] at f
    show (eqV _ u || inV u _) = _
    rw [List.any_cons, eqF_dat h g f.1 f2, any_dat g f2 t f.2]
theorem key_dat {v : V} {d : D} {k : Key} (h : Dat K F v d) (e : keyOf d = some k) : v = kV k := by
  cases h <;> first | (cases e; rfl) | cases e
theorem keys_dat : ∀ {vs : List V} {ds : List D} {ks : List Key}, Dats K F vs ds → keysOf ds = some ks → vs = ks.map kV
  | _, _, ks, .nil, e => by cases e; rfl
  | _, _, ks, .cons (d := d) (ds := ds) h t, e => by
    unfold keysOf at e
    split at e
    · rename_i k ks' e1 e2
      cases e
      rw [List.map_cons, key_dat h e1, keys_dat t e2]
    · cases e
section
variable {κ : Type} [DecidableEq κ]
theorem val_dat (k : κ) : ∀ {kvs : List (κ × V)} {ds : List (κ × D)}, kvs.map (·.1) = ds.map (·.1) → Dats K F (kvs.map (·.2)) (ds.map (·.2)) → ((valD ds k = none ∧ valV kvs k = none) ∨ ∃ d v, valD ds k = some d ∧ valV kvs k = some v ∧ Dat K F v d)
  | [], [], _, _ => .inl ⟨rfl, rfl⟩
  | [], _ :: _, e, _ => by simp at e
  | _ :: _, [], e, _ => by simp at e
  | (a, v) :: r, (b, d) :: s, e, h => by
    simp only [List.map_cons, List.cons.injEq] at e
    obtain ⟨e1, e2⟩ := e
    subst e1
    cases h with
    | cons h1 h2 =>
      by_cases z : a = k
      · exact .inr ⟨d, v, by simp [valD, z], by simp [valV, z], h1⟩
      · have q1 : valD ((a, d) :: s) k = valD s k := by simp [valD, List.find?_cons, z]
        have q2 : valV ((a, v) :: r) k = valV r k := by simp [valV, List.find?_cons, z]
        rw [q1, q2]
        exact val_dat k e2 h2
end
end
section
variable {X : Cx} {F H : Hp}
def copOf : Cop → CmpOp
  | .eq => .Eq | .ne => .NotEq | .lt => .Lt | .le => .LtE | .gt => .Gt | .ge => .GtE | .isin => .In | .notin => .NotIn | .is_ => .Is | .isnot => .IsNot
theorem dat_non {K : PySem.W.Frag} {v : V} {d : D} (h : Dat K F v d) : decide (v = .non) = isNon d := by
  cases h <;> simp [isNon]
theorem eq_core {v u : V} {x y : D} {c : Bool} {Q : VK} (neg : Bool) (hu : X.A.units + 64 < cLine) (e : Ex F H) (h1 : Dat X.K F v x) (h2 : Dat X.K F u y) (h : eqD x y = some c) (q : Q (.bl (if neg then !c else c)) H) : WO X (compareOp (if neg then .NotEq else .Eq)) v u H Q := by
  unfold eqD at h
  split at h
  · cases h
    rename_i xs
    cases h1 with
    | dic a1 a2 a3 a4 =>
      rename_i a kvs
      cases h2 with
      | dic b1 b2 b3 b4 =>
        rename_i b lvs
        have hl : lvs = [] := by
          cases lvs with
          | nil => rfl
          | cons p r => simp at b2
        subst hl
        intro pins s σ v u I rx ry
        obtain rfl : v = Value.ref a := rx
        obtain rfl : u = Value.ref b := ry
        obtain ⟨_, ya, va, ra, da⟩ := dk_rd I.hok (ex_rd e a1)
        obtain ⟨_, yb, vb, rb, db⟩ := dk_rd I.hok (ex_rd e b1)
        have hvb : vb = [] := by cases rb; rfl
        subst hvb
        have hlen : (va.length == ([] : List (Key × Value)).length && true) = xs.isEmpty := by
          have l1 := ra.length
          have l2 : kvs.length = xs.length := by simpa using congrArg List.length a2
          rw [← l1, l2]
          cases xs <;> rfl
        have hits : va.length = ([] : List (Key × Value)).length → PySem.W.KeqHits X.A.in1 s [] va true := fun z => by
          have : va = [] := List.eq_nil_of_length_eq_zero z
          subst this
          exact .nil
        cases neg with
        | false => exact PySem.W.keq_eq (knd := mixKind X.prog X.w) (r := true) ya yb da db (by omega) hits (fin_bl I q (by rw [hlen]; rfl))
        | true => exact PySem.W.keq_ne (knd := mixKind X.prog X.w) (r := true) ya yb da db (by omega) hits (fin_bl I q (by rw [hlen]; rfl))
  · obtain ⟨⟨s1, s2⟩, rfl⟩ := if_some h
    have p1 := h1.dp e (SeqAt.canLay_of_shaped s1)
    have p2 := h2.dp e (SeqAt.canLay_of_shaped s2)
    cases neg with
    | false => exact wo_of (op_eqD hu) ⟨_, _, p1, p2, s1, s2, q⟩
    | true => exact wo_of (op_neD hu) ⟨_, _, p1, p2, s1, s2, q⟩
theorem in_core {v u : V} {x y : D} {c : Bool} {Q : VK} (neg : Bool) (hu : X.A.units + 64 < cLine) (e : Ex F H) (h1 : Dat X.K F v x) (h2 : Dat X.K F u y) (h : inD x y = some c) (q : Q (.bl (if neg then !c else c)) H) : WO X (compareOp (if neg then .NotIn else .In)) v u H Q := by
  have seq : ∀ {p : Addr} {vs : List V} {ds : List D}, (SqL X.K H p vs ∨ SqT X.K H p vs) → Dats X.K F vs ds → (if flat x = true ∧ ds.all flat = true then some (ds.any fun y => eqF y x) else none) = some c → WO X (compareOp (if neg then .NotIn else .In)) v (.ref p) H Q := fun {p vs ds} hs hd hh => by
    obtain ⟨⟨s1, s2⟩, rfl⟩ := if_some hh
    have r : rIn X.K neg v (.ref p) H Q := ⟨p, vs, rfl, hs, flat_dat h1 s1, flat_dats hd s2, by rw [any_dat h1 s1 hd s2]; exact q⟩
    cases neg with
    | false => exact wo_of op_in_seq r
    | true => exact wo_of op_notIn_seq r
  have dct : ∀ {p : Addr} {o : Option V}, DGet H p v o → c = o.isSome → WO X (compareOp (if neg then .NotIn else .In)) v (.ref p) H Q := fun {p o} g ec => by
    subst ec
    intro pins s σ vv uu I rx ry
    obtain rfl : uu = Value.ref p := ry
    cases neg with
    | false => exact d_in (by omega) I g rx fun s' I' => ⟨.bl _, H, I', rfl, q⟩
    | true => exact d_notIn (by omega) I g rx fun s' I' => ⟨.bl _, H, I', rfl, q⟩
  cases h2 with
  | lst a1 a2 a3 => exact seq (.inl (.of (e _ _ a1))) a2 h
  | tup a1 a2 a3 => exact seq (.inr (.of (e _ _ a1))) a2 h
  | rot a1 a2 a3 => exact seq (.inr (ex_t e a1)) a2 h
  | dic a1 a2 a3 a4 =>
    unfold inD at h
    dsimp only at h
    split at h
    · rename_i k ek
      have ev := key_dat h1 ek
      subst ev
      refine dct (.inl ⟨_, k, ex_rd e a1, rfl, rfl⟩) ?_
      cases h
      rcases val_dat k a2 a3 with ⟨z1, z2⟩ | ⟨_, _, z1, z2, _⟩ <;> rw [z1, z2] <;> rfl
    · cases h
  | dicT a1 a2 a3 a4 =>
    unfold inD at h
    dsimp only at h
    split at h
    · rename_i ds
      split at h
      · rename_i k ek
        cases h1 with
        | tup b1 b2 b3 =>
          have ev := keys_dat b2 ek
          subst ev
          refine dct (.t (e _ _ a1) (e _ _ b1)) ?_
          cases h
          rcases val_dat k a2 a3 with ⟨z1, z2⟩ | ⟨_, _, z1, z2, _⟩ <;> rw [z1, z2] <;> rfl
      · cases h
    · cases h
  | _ => cases h
theorem cmp_ok {o : Cop} {v u : V} {x y : D} {c : Bool} {Q : VK} (hu : X.A.units + 64 < cLine) (e : Ex F H) (h1 : Dat X.K F v x) (h2 : Dat X.K F u y) (h : cmpD o x y = some c) (q : Q (.bl c) H) : WO X (compareOp (copOf o)) v u H Q := by
  cases o with
  | eq => exact eq_core false hu e h1 h2 h q
  | ne =>
    obtain ⟨b, hb, rfl⟩ := Option.map_eq_some_iff.mp (show (eqD x y).map (!·) = some c from h)
    exact eq_core true hu e h1 h2 hb q
  | isin => exact in_core false hu e h1 h2 h q
  | notin =>
    obtain ⟨b, hb, rfl⟩ := Option.map_eq_some_iff.mp (show (inD x y).map (!·) = some c from h)
    exact in_core true hu e h1 h2 hb q
  | is_ =>
    cases h2 <;> try (cases (show (none : Option Bool) = some c from h))
    cases h
    exact wo_of op_isN ⟨rfl, by rw [dat_non h1]; exact q⟩
  | isnot =>
    cases h2 <;> try (cases (show (none : Option Bool) = some c from h))
    cases h
    exact wo_of op_notN ⟨rfl, by rw [dat_non h1]; exact q⟩
  | lt =>
    cases h1 <;> try (cases (show (none : Option Bool) = some c from h))
    cases h2 <;> try (cases (show (none : Option Bool) = some c from h))
    cases h
    exact wo_of op_lt ⟨_, _, rfl, rfl, q⟩
  | le =>
    cases h1 <;> try (cases (show (none : Option Bool) = some c from h))
    cases h2 <;> try (cases (show (none : Option Bool) = some c from h))
    cases h
    exact wo_of op_le ⟨_, _, rfl, rfl, q⟩
  | gt =>
    cases h1 <;> try (cases (show (none : Option Bool) = some c from h))
    cases h2 <;> try (cases (show (none : Option Bool) = some c from h))
    cases h
    exact wo_of op_gt ⟨_, _, rfl, rfl, q⟩
  | ge =>
    cases h1 <;> try (cases (show (none : Option Bool) = some c from h))
    cases h2 <;> try (cases (show (none : Option Bool) = some c from h))
    cases h
    exact wo_of op_ge ⟨_, _, rfl, rfl, q⟩
end
section
variable {X : Cx} {a b c : Expr} {σ : L2.St} {F F1 H : Hp} {x y z : D} {pos : Pos} {t : Bool}
theorem ev_cmp {o : Cop} (hu : X.A.units + 64 < cLine) (ha : EvZ X a σ F x) (hb : EvZ X b σ F y) (h : cmpD o x y = some t) (hm : behindInMarks (copOf o) b = false) : EvD X (.Compare a [copOf o] [b] pos) σ F 0 (.bl t) :=
  fun F1 H e1 e2 Q q => w_of (pe_cmpR op_W pe_W pe_W hm) (ev2 ha hb e1 e2 fun v u F2 H2 st d1 d2 => cmp_ok hu st.fh d1 d2 h (give q st (.bl t)))
theorem et_cmp {o : Cop} (hu : X.A.units + 64 < cLine) (ha : EvZ X a σ F x) (hb : EvZ X b σ F y) (h : cmpD o x y = some t) (hm : behindInMarks (copOf o) b = false) : EvT X (.Compare a [copOf o] [b] pos) σ F t :=
  fun F1 H e1 e2 Q q => wt_of (pt_cmpR op_W pe_W pe_W hm) (ev2 ha hb e1 e2 fun v u F2 H2 st d1 d2 => cmp_ok hu st.fh d1 d2 h ⟨t, rfl, q F2 H2 st⟩)
end
end PV

set_option Elab.async false
set_option linter.all false
set_option maxRecDepth 100000
set_option maxHeartbeats 1000000
/-! PV, part E: chains, and, or, argument lists, displays, subscripts, slices, built-ins. -/
namespace PV
open PySem PySem.Spec PyProof.Rows L2
section
variable {X : Cx} {e a b c : Expr} {es rest : List Expr} {σ : L2.St} {F F1 H : Hp} {d x y z : D} {ds : List D} {k : Nat} {pos : Pos} {t u : Bool}

theorem chain_core {o p : Cop} (hu : X.A.units + 64 < cLine) (ha : EvZ X a σ F x) (hb : EvZ X b σ F y) (h1 : cmpD o x y = some u) (h2 : u = true → EvZ X c σ F z ∧ cmpD p y z = some t) (h3 : u = false → t = false)
    (e1 : Ex F F1) (e2 : Ex F1 H) {Q : VK} (q : ∀ F2 H2, Stp F1 H F2 H2 → Q (.bl t) H2) : tChain (WO X (compareOp (copOf o))) (WO X (compareOp (copOf p))) (WE X a) (WE X b) (WE X c) σ H Q := by
  refine ev2 ha hb e1 e2 fun v w F2 H2 st d1 d2 => cmp_ok hu st.fh d1 d2 h1 ⟨u, rfl, ?_⟩
  cases u with
  | true =>
    obtain ⟨hc, h2⟩ := h2 rfl
    exact iteT (hc F2 H2 (e1.trans st.ff) st.fh _ fun w' F3 H3 s2 d3 => cmp_ok hu s2.fh (d2.mono s2.ff) d3 h2 (q F3 H3 (st.trans s2)))
  | false =>
    have e := h3 rfl
    subst e
    exact iteF (q F2 H2 st)
theorem ev_chain {o p : Cop} (hu : X.A.units + 64 < cLine) (ha : EvZ X a σ F x) (hb : EvZ X b σ F y) (h1 : cmpD o x y = some u) (h2 : u = true → EvZ X c σ F z ∧ cmpD p y z = some t) (h3 : u = false → t = false)
    (hm : lastMarks [copOf o, copOf p] [b, c] = false) : EvD X (.Compare a [copOf o, copOf p] [b, c] pos) σ F 0 (.bl t) :=
  fun F1 H e1 e2 Q q => w_of (pe_chain op_W op_W pe_W pe_W pe_W hm) (chain_core hu ha hb h1 h2 h3 e1 e2 fun F2 H2 st => give q st (.bl t))
theorem et_chain {o p : Cop} (hu : X.A.units + 64 < cLine) (ha : EvZ X a σ F x) (hb : EvZ X b σ F y) (h1 : cmpD o x y = some u) (h2 : u = true → EvZ X c σ F z ∧ cmpD p y z = some t) (h3 : u = false → t = false)
    (hm : lastMarks [copOf o, copOf p] [b, c] = false) : EvT X (.Compare a [copOf o, copOf p] [b, c] pos) σ F t :=
  fun F1 H e1 e2 Q q => wt_of (pt_chain op_W op_W pe_W pe_W pe_W hm) (chain_core hu ha hb h1 h2 h3 e1 e2 fun F2 H2 st => ⟨t, rfl, q F2 H2 st⟩)

/-! ### and, or -/
theorem ev_one {op : BoolOp} (h : EvZ X a σ F (.bl t)) : EvD X (.BoolOp op [a] pos) σ F 0 (.bl t) := fun F1 H e1 e2 Q q => w_of (pe_one pe_W) (h F1 H e1 e2 _ fun v F2 H2 st d1 => give q st d1)
theorem ev_and (ha : EvZ X a σ F (.bl t)) (hb : t = true → EvZ X (.BoolOp .And (b :: rest) pos) σ F (.bl u)) (hn : t = false → u = false) : EvD X (.BoolOp .And (a :: b :: rest) pos) σ F 0 (.bl u) :=
  fun F1 H e1 e2 Q q => w_of (pe_and pe_W pe_W) (ha F1 H e1 e2 _ fun v F2 H2 st d1 => by
    cases d1
    refine ⟨t, rfl, ?_⟩
    cases t with
    | true => exact iteT (hb rfl F2 H2 (e1.trans st.ff) st.fh _ fun v F3 H3 s2 d2 => give q (st.trans s2) d2)
    | false => have e := hn rfl; subst e; exact iteF (give q st (.bl false)))
theorem ev_or (ha : EvZ X a σ F (.bl t)) (hb : t = false → EvZ X (.BoolOp .Or (b :: rest) pos) σ F (.bl u)) (hn : t = true → u = true) : EvD X (.BoolOp .Or (a :: b :: rest) pos) σ F 0 (.bl u) :=
  fun F1 H e1 e2 Q q => w_of (pe_or pe_W pe_W) (ha F1 H e1 e2 _ fun v F2 H2 st d1 => by
    cases d1
    refine ⟨t, rfl, ?_⟩
    cases t with
    | false => exact iteF (hb rfl F2 H2 (e1.trans st.ff) st.fh _ fun v F3 H3 s2 d2 => give q (st.trans s2) d2)
    | true => have e := hn rfl; subst e; exact iteT (give q st (.bl true)))
/-- as tests, whatever the whole is -/
def WW (X : Cx) (e : Expr) : TT := fun σ H Q => ∀ (whole : Sem Value) pins s, Inv X pins σ H s → wpAny (model X.prog X.w) X.A (isTrue e X.env whole) (TP X pins σ Q) X.xe s
theorem pw_W {X : Cx} {e : Expr} : PW X e (WW X e) := ⟨fun wh pins s _ _ _ I h => h wh pins s I⟩
theorem ww_of {X : Cx} {e : Expr} {t : TT} (h : PW X e t) {σ : L2.St} {H : Hp} {Q : Bool → Hp → Prop} (q : t σ H Q) : WW X e σ H Q := fun wh pins s I => h.run wh pins s σ H Q I q
def EvW (X : Cx) (e : Expr) (σ : L2.St) (F : Hp) (b : Bool) : Prop :=
  ∀ F1 H, Ex F F1 → Ex F1 H → ∀ Q : Bool → Hp → Prop, (∀ F2 H2, Stp F1 H F2 H2 → Q b H2) → WW X e σ H Q
theorem EvW.tst (h : EvW X e σ F t) : EvT X e σ F t := fun F1 H e1 e2 Q q pins s I => h F1 H e1 e2 Q q _ pins s I
theorem ew_and1 (h : EvT X a σ F t) : EvW X (.BoolOp .And [a] pos) σ F t := fun F1 H e1 e2 Q q => ww_of (pw_and1 pt_W) (h F1 H e1 e2 Q q)
theorem ew_or1 (h : EvT X a σ F t) : EvW X (.BoolOp .Or [a] pos) σ F t := fun F1 H e1 e2 Q q => ww_of (pw_or1 pt_W) (h F1 H e1 e2 Q q)
theorem ew_and (ha : EvT X a σ F t) (hb : t = true → EvW X (.BoolOp .And (b :: rest) pos) σ F u) (hn : t = false → u = false) : EvW X (.BoolOp .And (a :: b :: rest) pos) σ F u :=
  fun F1 H e1 e2 Q q => ww_of (pw_and pt_W pw_W) (ha F1 H e1 e2 _ fun F2 H2 st => by
    cases t with
    | true => exact iteT (hb rfl F2 H2 (e1.trans st.ff) st.fh _ fun F3 H3 s2 => q F3 H3 (st.trans s2))
    | false => have e := hn rfl; subst e; exact iteF (q F2 H2 st))
theorem ew_or (ha : EvT X a σ F t) (hb : t = false → EvW X (.BoolOp .Or (b :: rest) pos) σ F u) (hn : t = true → u = true) : EvW X (.BoolOp .Or (a :: b :: rest) pos) σ F u :=
  fun F1 H e1 e2 Q q => ww_of (pw_or pt_W pw_W) (ha F1 H e1 e2 _ fun F2 H2 st => by
    cases t with
    | false => exact iteF (hb rfl F2 H2 (e1.trans st.ff) st.fh _ fun F3 H3 s2 => q F3 H3 (st.trans s2))
    | true => have e := hn rfl; subst e; exact iteT (q F2 H2 st))

/-! ### argument lists, displays -/
theorem ea_nil : EvA X [] σ F [] := fun F1 H e1 e2 Q q => wa_of pa_nil (show Q [] H from q [] F1 H (.refl e2) .nil)
theorem ea_cons (ha : EvZ X e σ F d) (hr : EvA X es σ F ds) (hs : starEach (e :: es) X.env = (false, eval e X.env) :: starEach es X.env) : EvA X (e :: es) σ F (d :: ds) :=
  fun F1 H e1 e2 Q q => wa_of (pa_cons pe_W pa_W hs) (ha F1 H e1 e2 _ fun v F2 H2 st d1 => hr F2 H2 (e1.trans st.ff) st.fh _ fun vs F3 H3 s2 d2 => q (v :: vs) F3 H3 (st.trans s2) (.cons (d1.mono s2.ff) d2))
theorem ev_tup {kk : Nat} (h : EvA X es σ F ds) (hl : ds.length ≤ cap) : EvD X (.Tuple es kk pos) σ F 0 (.tup ds) := fun F1 H e1 e2 Q q => w_of (pe_tup pa_W) (h F1 H e1 e2 _ fun vs F2 H2 st dd =>
  ⟨cap_le (by rw [dd.length]; exact hl), fun p hp => give_tup q st hp dd hl⟩)
theorem ev_lst (h : EvA X es σ F ds) (hl : ds.length ≤ cap) : EvD X (.List es pos) σ F 1 (.lst ds) := fun F1 H e1 e2 Q q => w_of (pe_lst pa_W) (h F1 H e1 e2 _ fun vs F2 H2 st dd =>
  ⟨cap_le (by rw [dd.length]; exact hl), fun p hp => give_lst q st hp dd hl⟩)
theorem ev_dnew : EvD X (.Dict [] [] pos) σ F 1 (.dic []) := fun F1 H e1 e2 Q q => w_of pe_dnewK (fun p hp => give_dic q (.refl e2) hp rfl .nil (Nat.zero_le _))

/-! ### subscripts, slices -/
theorem atI_dats {K : PySem.W.Frag} {vs : List V} {i : Int} (h : Dats K F vs ds) (g : atI ds i = some d) : ∃ v, atI vs i = some v ∧ Dat K F v d := by
  unfold atI at g ⊢
  rw [h.length]
  cases q : ixN ds.length i with
  | none => rw [q] at g; cases g
  | some j => rw [q] at g; exact h.get g
theorem ev_idx (hu : X.A.units + 64 < cLine) (ha : EvZ X a σ F x) (hb : EvZ X b σ F y) (h : idxD x y = some d) (hs : PlainIx b) : EvD X (.Subscript a b pos) σ F 0 d := by
  intro F1 H e1 e2 Q q
  unfold idxD at h
  split at h
  · refine w_of (pe_ix ix_list pe_W pe_W hs) (ev2 ha hb e1 e2 fun v u F2 H2 st d1 d2 => ?_)
    cases d1 with
    | lst h1 h2 h3 =>
      cases d2
      obtain ⟨v, hv, dv⟩ := atI_dats h2 h
      exact ⟨_, _, _, v, rfl, rfl, .of (st.fh _ _ h1), hv, give q st dv⟩
  · refine w_of (pe_ix ix_tup pe_W pe_W hs) (ev2 ha hb e1 e2 fun v u F2 H2 st d1 d2 => ?_)
    cases d1 with
    | tup h1 h2 h3 =>
      cases d2
      obtain ⟨v, hv, dv⟩ := atI_dats h2 h
      exact ⟨_, _, _, v, rfl, rfl, .of (st.fh _ _ h1), hv, give q st dv⟩
  · refine w_of (pe_ix ix_tup pe_W pe_W hs) (ev2 ha hb e1 e2 fun v u F2 H2 st d1 d2 => ?_)
    cases d1 with
    | rot h1 h2 h3 =>
      cases d2
      obtain ⟨v, hv, dv⟩ := atI_dats h2 h
      exact ⟨_, _, _, v, rfl, rfl, ex_t st.fh h1, hv, give q st dv⟩
  · obtain ⟨n, hn, rfl⟩ := Option.map_eq_some_iff.mp h
    refine w_of (pe_ix ix_list pe_W pe_W hs) (ev2 ha hb e1 e2 fun v u F2 H2 st d1 d2 => ?_)
    cases d1 with
    | rol h1 h2 =>
      cases d2
      refine ⟨_, _, _, .int n, rfl, rfl, ex_l st.fh h1, ?_, give q st (.int n)⟩
      unfold atI at hn ⊢
      rw [List.length_map]
      obtain ⟨j, hj, hn⟩ := Option.bind_eq_some_iff.mp hn
      rw [hj, Option.bind_some, List.getElem?_map, hn]
      rfl
  · obtain ⟨ky, hk, hv⟩ := Option.bind_eq_some_iff.mp h
    refine w_of (pe_dget (by omega) pe_W pe_W hs) (ev2 ha hb e1 e2 fun v u F2 H2 st d1 d2 => ?_)
    cases d1 with
    | dic h1 h2 h3 h4 =>
      rcases val_dat ky h2 h3 with ⟨z1, z2⟩ | ⟨d', v', z1, z2, dv⟩
      · rw [z1] at hv; cases hv
      · rw [z1] at hv; cases hv
        have eu := key_dat d2 hk
        subst eu
        exact ⟨_, v', rfl, by rw [← z2]; exact .inl ⟨_, ky, ex_rd st.fh h1, rfl, rfl⟩, give q st dv⟩
  · cases h
theorem cutV_eq (vs : List V) (lo hi : Option Int) : cutV vs lo hi = cutL vs lo hi := rfl
theorem Dats.cut {K : PySem.W.Frag} {vs : List V} (h : Dats K F vs ds) (lo hi : Option Int) : Dats K F (cutL vs lo hi) (cutL ds lo hi) := by
  unfold cutL
  rw [h.length]
  exact (h.drop _).take _
theorem cutL_le {α : Type} (xs : List α) (lo hi : Option Int) : (cutL xs lo hi).length ≤ xs.length := by
  unfold cutL
  rw [List.length_take, List.length_drop]
  omega
theorem cutL_whole {α : Type} (xs : List α) (lo hi : Option Int) (h : HT.sIx xs.length 0 lo = 0 ∧ HT.sIx xs.length xs.length hi = xs.length) : cutL xs lo hi = xs := by
  unfold cutL
  rw [h.1, h.2, List.drop_zero, Nat.sub_zero, List.take_length]
theorem ev_slc {lo hi : Option Expr} {l h : Option Int} {p2 : Pos} {tl th : TO} (ha : EvZ X a σ F x) (hd : slcD x l h = some (k, d))
    (hl : ∀ F1 H, Ex F F1 → Ex F1 H → ∀ Q : Option Int → Hp → Prop, (∀ F2 H2, Stp F1 H F2 H2 → Q l H2) → tl σ H Q) (pl : PO X lo tl)
    (hh : ∀ F1 H, Ex F F1 → Ex F1 H → ∀ Q : Option Int → Hp → Prop, (∀ F2 H2, Stp F1 H F2 H2 → Q h H2) → th σ H Q) (ph : PO X hi th) : EvD X (.Subscript a (.Slice lo hi none p2) pos) σ F k d := by
  intro F1 H e1 e2 Q q
  have go : ∀ {r : V → Option Int → Option Int → Hp → VK → Prop}, SlR X r → (∀ v F2 H2, Stp F1 H F2 H2 → Dat X.K F2 v x → r v l h H2 Q) → WE X (.Subscript a (.Slice lo hi none p2) pos) σ H Q := fun {r} hr hq =>
    w_of (pe_slice hr pe_W pl ph) (ha F1 H e1 e2 _ fun v F2 H2 st d1 => hl F2 H2 (e1.trans st.ff) st.fh _ fun F3 H3 s2 => hh F3 H3 (e1.trans (st.ff.trans s2.ff)) s2.fh _ fun F4 H4 s3 => hq v F4 H4 ((st.trans s2).trans s3) (d1.mono (s2.ff.trans s3.ff)))
  unfold slcD at hd
  split at hd
  · cases hd
    refine go sl_list fun v F2 H2 st d1 => ?_
    cases d1 with
    | lst h1 h2 h3 => exact ⟨_, _, rfl, .of (st.fh _ _ h1), fun p hp => give_lst q st hp (h2.cut _ _) (Nat.le_trans (cutL_le _ _ _) h3)⟩
  · cases hd
    refine go sl_tupA fun v F2 H2 st d1 => ?_
    cases d1 with
    | tup h1 h2 h3 =>
      refine ⟨_, _, rfl, .of (st.fh _ _ h1), fun z => ?_, fun _ p hp => give_tup q st hp (h2.cut _ _) (Nat.le_trans (cutL_le _ _ _) h3)⟩
      rw [h2.length] at z
      rw [cutL_whole _ _ _ z] at q
      exact give q st (.tup h1 h2 h3)
  · cases hd
end
end PV

set_option Elab.async false
set_option linter.all false
set_option maxRecDepth 100000
set_option maxHeartbeats 1000000
/-! PV, part F: built-ins by one argument, list.index. -/
namespace PV
open PySem PySem.Spec PyProof.Rows L2
section
variable {X : Cx} {e a b c : Expr} {σ : L2.St} {F F1 H : Hp} {d x y z : D} {ds : List D} {k : Nat} {pos p p2 : Pos}

/-- a plain argument: no star -/
def Pl (X : Cx) (e : Expr) : Prop := ∀ es, starEach (e :: es) X.env = (false, eval e X.env) :: starEach es X.env

/-- one argument to a built-in function, to a built-in type -/
theorem ev_callB {id : String} {n : Str} (hg : Gl X n) (hm : X.mg n = none) (hv : bootBuiltins n = some (.builtin id)) (hn : n ≠ "__name__") (hdb : (n == ("__debug__" : Str)) = false) (hp : Pl X a) (ha : EvZ X a σ F x)
    (h : ∀ F1 H F2 H2 v (Q : VK), Ex F F1 → Stp F1 H F2 H2 → Dat X.K F2 v x → (∀ v F2 H2 fp, Stp F1 H F2 H2 → Own X.K F2 H2 k v d fp → (∀ a ∈ fp, H a = none) → Q v H2) → WC X (.builtin id) [v] H2 Q) : EvD X (.Call (.Name n p) [a] [] pos) σ F k d :=
  fun F1 H e1 e2 Q q => w_of (pe_callB cr_W hg hm hv (pa_cons pe_W pa_nil (hp [])) hn hdb (hp []) rfl) (ha F1 H e1 e2 _ fun v F2 H2 st d1 => h F1 H F2 H2 v Q e1 st d1 q)
theorem ev_callTy {id : String} {n : Str} (hg : Gl X n) (hm : X.mg n = none) (hv : bootBuiltins n = some (.type id)) (hn : n ≠ "__name__") (hdb : (n == ("__debug__" : Str)) = false) (hp : Pl X a) (ha : EvZ X a σ F x)
    (h : ∀ F1 H F2 H2 v (Q : VK), Ex F F1 → Stp F1 H F2 H2 → Dat X.K F2 v x → (∀ v F2 H2 fp, Stp F1 H F2 H2 → Own X.K F2 H2 k v d fp → (∀ a ∈ fp, H a = none) → Q v H2) → WC X (.type id) [v] H2 Q) : EvD X (.Call (.Name n p) [a] [] pos) σ F k d :=
  fun F1 H e1 e2 Q q => w_of (pe_callTy cr_W hg hm hv (pa_cons pe_W pa_nil (hp [])) hn hdb (hp []) rfl) (ha F1 H e1 e2 _ fun v F2 H2 st d1 => h F1 H F2 H2 v Q e1 st d1 q)

theorem len_ok {v : V} {n : Int} {Q : VK} (fh : Ex F H) (hd : Dat X.K F v x) (h : lenD x = some n) (q : Q (.int n) H) : WC X (.builtin "len") [v] H Q := by
  cases hd with
  | str y =>
    obtain ⟨hl, rfl⟩ := if_some h
    exact wc_of call_len ⟨_, y.length, rfl, ⟨cap_le hl, rfl⟩, q⟩
  | lst h1 h2 h3 => cases h; exact wc_of call_len ⟨_, _, rfl, .inl ⟨_, .of (fh _ _ h1), rfl⟩, by rw [h2.length]; exact q⟩
  | tup h1 h2 h3 => cases h; exact wc_of call_len ⟨_, _, rfl, .inr ⟨_, .of (fh _ _ h1), rfl⟩, by rw [h2.length]; exact q⟩
  | rot h1 h2 h3 => cases h; exact wc_of call_len ⟨_, _, rfl, .inr ⟨_, ex_t fh h1, rfl⟩, by rw [h2.length]; exact q⟩
  | rol h1 h2 => cases h; exact wc_of call_len ⟨_, _, rfl, .inl ⟨_, ex_l fh h1, rfl⟩, by rw [List.length_map]; exact q⟩
  | dic h1 h2 h3 h4 =>
    cases h
    rename_i a kvs ds
    intro pins s σ us I rv
    obtain ⟨u, rfl, r⟩ := vals1 rv
    obtain rfl : u = Value.ref a := r
    have hl : kvs.length = ds.length := by simpa using congrArg List.length h2
    exact d_len I (ex_rd fh h1) fun t s' I' => ⟨.int kvs.length, H, I', ⟨t, rfl⟩, by rw [hl]; exact q⟩
  | _ => cases h
theorem bools_dats {K : PySem.W.Frag} : ∀ {vs : List V} {ds : List D} {bs : List Bool}, Dats K F vs ds → bools ds = some bs → vs = bs.map V.bl
  | _, _, _, .nil, h => by cases h; rfl
  | _, _, _, .cons h1 h2, h => by
    cases h1 with
    | bl b =>
      obtain ⟨bs', hb, rfl⟩ := Option.map_eq_some_iff.mp (show (bools _).map (b :: ·) = some _ from h)
      rw [bools_dats h2 hb]; rfl
    | _ => cases h
theorem ints_dats {K : PySem.W.Frag} : ∀ {vs : List V} {ds : List D} {bs : List Int}, Dats K F vs ds → intsD ds = some bs → vs = bs.map V.int
  | _, _, _, .nil, h => by cases h; rfl
  | _, _, _, .cons h1 h2, h => by
    cases h1 with
    | int b =>
      obtain ⟨bs', hb, rfl⟩ := Option.map_eq_some_iff.mp (show (intsD _).map (b :: ·) = some _ from h)
      rw [ints_dats h2 hb]; rfl
    | _ => cases h
theorem keys_dats {K : PySem.W.Frag} : ∀ {kvs : List (Key × V)} {ds : List (Key × D)}, kvs.map (·.1) = ds.map (·.1) → Dats K F (kvs.map fun kv => kV kv.1) (ds.map fun kv => dOfKey kv.1)
  | [], [], _ => .nil
  | [], _ :: _, e => by simp at e
  | _ :: _, [], e => by simp at e
  | (a, v) :: r, (b, d) :: s, e => by
    simp only [List.map_cons, List.cons.injEq] at e
    obtain ⟨e1, e2⟩ := e
    subst e1
    refine .cons ?_ (keys_dats e2)
    cases a with
    | inl i => exact .int i
    | inr x => exact .str x

/-! ### list(d.values()) -/
theorem pe_listVals {te : TE} {apos cpos : Pos} (hc : X.calm = true) (he : PE X e te) (hg : Gl X "list") (hm : X.mg "list" = none) (hbase : attributeBase e "values" X.env (eval e X.env) = eval e X.env) (hline : (apos.endLine == cpos.line) = true) :
    PE X (.Call (.Name "list" p) [.Call (.Attribute e "values" apos) [] [] cpos] [] pos) (fun σ H Q => te σ H fun x H1 => ∃ d kvs, x = .ref d ∧ Rd H1 d (.dK kvs) ∧ ∀ q, H1 q = none → Q (.ref q) (upd H1 q (.lst (kvs.map (·.2))))) := by
  refine ⟨fun pins s σ H Q I hq => ?_⟩
  refine wpAny_Call_Name_kw (ld_blt I hg hm (show bootBuiltins "list" = some (.type "list") by decide +kernel) ?_)
  refine PyProof.Rows.callWith_type1 ?_ rfl rfl
  show wpAny _ _ (spliced ((false, eval (.Call (.Attribute e "values" apos) [] [] cpos) X.env) :: backTo pos (starEach [] X.env))) _ _ s
  refine Calls.spliced_cons ?_
  refine wpAny_Call_method (T := "dict") (id := "dict.values") hbase rfl hline F.plainAttrs_dict F.slot_dict_values F.type_dict_values (thn (he.run pins s σ H _ I hq) fun u s1 ⟨x, H1, I1, rx, d, kvs, ex, hd, q⟩ => ?_)
  subst ex
  obtain rfl : u = Value.ref d := rx
  obtain ⟨hz, hs0, vs, kv, hdo⟩ := dk_rd I1.hok hd
  obtain ⟨ep, hat⟩ := hdo.dictAt
  have lk : kvs.length = vs.length := Paired.length kv
  have I2 : Inv X pins σ H1 { s1 with heap := s1.heap.push { cls := .type "dict_values", data := .fields #[.ref d] } } := I1.kept (t' := s1.toks) fun b ob q => Heap.get?_push_of_some _ q
  refine ⟨hdo.typeIs, hdo.mapOf.noDict, ?_⟩
  show wpAny _ _ (callWith cpos (.builtin "dict.values") [.ref d] [] []) _ X.xe s1
  refine method_meetsIn F.slot_dict_values F.entry_dict_values rfl (PySem.evalArgs_none ⟨rfl, hdo.typeIs, F.args_dict_values_1 _, _, meets_dict_values (mixKind X.prog X.w) d hs0, ⟨vs, hdo⟩, ?_⟩)
  refine Calls.spliced_nil ?_
  refine PySem.W.kdl_call (PySem.W.kdl_values (knd := mixKind X.prog X.w) (kvs := vs) (ep := ep)) (I1.ok.hd hc) ⟨⟨_, Heap.get?_push_size _ rfl, rfl, rfl⟩, hat.push _⟩ (by rw [← lk]; exact hz) fun h' tk acc' c' hkeep hS hacc => ?_
  refine ⟨.ref _, upd H1 _ (.lst (kvs.map (·.2))), I2.laid hkeep (Nat.le_refl _) (show ObjOk X.prog X.w _ _ _ (.lst (kvs.map (·.2))) from ⟨?_, acc'.toList, c', ?_, ?_⟩), rfl, q _ (I2.hok.fresh (Nat.le_refl _))⟩
  · rw [List.length_map]; exact hz
  · have el : acc'.toList.length = acc'.size := by simp
    refine vals_of_at (by rw [List.length_map, el, hacc.1, lk]) fun j x w h1 h2 => ?_
    obtain ⟨k, hky⟩ := hacc.2 j w (by rw [← Array.getElem?_toList]; exact h2)
    rw [List.getElem?_map] at h1
    obtain ⟨kv', hkv, rfl⟩ := Option.map_eq_some_iff.mp h1
    obtain ⟨u, hu, ru⟩ := kv_get kv (i := j) (k := kv'.1) (v := kv'.2) hkv
    rw [hky] at hu
    cases hu
    exact ru
  · rw [Array.toArray_toList]; exact hS
theorem ev_listvals {apos cpos : Pos} {kvs : List (Key × D)} (hc : X.calm = true) (hg : Gl X "list") (hm : X.mg "list" = none) (hbase : attributeBase e "values" X.env (eval e X.env) = eval e X.env) (hline : (apos.endLine == cpos.line) = true) (h : EvZ X e σ F (.dic kvs)) :
    EvD X (.Call (.Name "list" p) [.Call (.Attribute e "values" apos) [] [] cpos] [] pos) σ F 1 (.lst (kvs.map (·.2))) :=
  fun F1 H e1 e2 Q q => w_of (pe_listVals hc pe_W hg hm hbase hline) (h F1 H e1 e2 _ fun v F2 H2 st d1 => by
    cases d1 with
    | dic h1 h2 h3 h4 => exact ⟨_, _, rfl, ex_rd st.fh h1, fun p hp => give_lst q st hp h3 (by rw [List.length_map]; exact h4)⟩)

/-! ### len(set(ints)) -/
theorem pe_lenSet {te : TE} {q : Pos} (hg : Gl X "len") (hm : X.mg "len" = none) (hg2 : Gl X "set") (hm2 : X.mg "set" = none) (ha : PE X a te) (hc : X.calm = true) (na : Pl X a) :
    PE X (.Call (.Name "len" p) [.Call (.Name "set" p2) [a] [] q] [] pos) (fun σ H Q => te σ H fun x H1 => ∃ (l : Addr) (ns : List Int), x = .ref l ∧ SqL X.K H1 l (ns.map V.int) ∧ ns.length ≤ 4000 ∧ Q (.int ((PyProof.Rows.firstMet (fun i => ns.getD i 0) ns.length).length : Nat)) H1) := by
  refine ⟨fun pins s σ H Q I h => ?_⟩
  refine Call_ (ld_blt I hg hm boot_len ?_)
  refine PyProof.Rows.callWith_builtin1 (PyProof.Rows.args_cons ?_ rfl) rfl rfl
  refine Call_ (ld_blt I hg2 hm2 boot_set ?_)
  refine PyProof.Rows.callWith_type1 (PyProof.Rows.args_cons (thn (ha.run pins s σ H _ I h) fun v s1 ⟨x, H1, I1, r1, q1⟩ => PyProof.Rows.args_nil ?_) (na [])) (na []) rfl
  obtain ⟨l, ns, rfl, hq, hl, q1⟩ := q1
  cases r1
  obtain ⟨its, r, pl, hz⟩ := I1.list hq
  have hlen : its.toArray.size = ns.length := by rw [List.size_toArray, ← r.length, List.length_map]
  refine call_set_list (I1.ok.hd hc) pl.isList (by simpa using RZ.intsAre_vals r) (by rw [hlen]; unfold scanBound; omega) fun h' tk hS hk => ?_
  refine PyProof.Rows.args_nil ?_
  rw [hlen] at hS
  obtain ⟨o, es, ep, t, ho, hex, hd, _, _, _, hf, hn⟩ := hS
  have I2 : Inv X pins σ H1 { s1 with heap := h', toks := tk } := I1.kept fun b o e => hk b o (Heap.lt_size e) e
  have hle : (PyProof.Rows.firstMet (fun i => ns.getD i 0) ns.length).length ≤ ns.length := PyProof.Rows.firstMet_length_le _ _
  exact call_len_set ho hex hd hf (by rw [hn] <;> omega) ⟨.int _, H1, I2.tok _, ⟨_, by rw [hn]⟩, q1⟩
theorem ev_lenset {q : Pos} {ns : List Int} (hg : Gl X "len") (hm : X.mg "len" = none) (hg2 : Gl X "set") (hm2 : X.mg "set" = none) (hc : X.calm = true) (na : Pl X a) (ha : EvZ X a σ F (.lst ds)) (hi : intsD ds = some ns) (hl : ns.length ≤ 4000) :
    EvD X (.Call (.Name "len" p) [.Call (.Name "set" p2) [a] [] q] [] pos) σ F 0 (.int (setSize ns)) :=
  fun F1 H e1 e2 Q qq => w_of (pe_lenSet hg hm hg2 hm2 pe_W hc na) (ha F1 H e1 e2 _ fun v F2 H2 st d1 => by
    cases d1 with
    | lst h1 h2 h3 =>
      refine ⟨_, ns, rfl, ?_, hl, give qq st (.int _)⟩
      rw [← ints_dats h2 hi]
      exact .of (st.fh _ _ h1))

/-! ### isinstance -/
def tyName : D → String
  | .non => "NoneType" | .bl _ => "bool" | .int _ => "int" | .str _ => "str" | .lst _ => "list" | .rol _ => "list" | .tup _ => "tuple" | .rot _ => "tuple" | .dic _ => "dict" | .dicT _ => "dict"
theorem dat_ty {v : V} (fh : Ex F H) (h : Dat X.K F v x) : TyX X.K H v (.type (tyName x)) := by
  cases h with
  | non => exact .base .non
  | bl b => exact .base (.bl b)
  | int i => exact .base (.int i)
  | str x => exact .base (.str x)
  | lst h1 h2 h3 => exact .base (.lst (fh _ _ h1))
  | tup h1 h2 h3 => exact .base (.tup (fh _ _ h1))
  | rot h1 h2 h3 =>
    rcases h1 with (h1 | ⟨o, h1⟩) | ⟨o, its, n, h1, h2, _⟩
    · exact .base (.tup (fh _ _ h1))
    · exact .fTuple (fh _ _ h1)
    · exact .kTuple h1 h2
  | rol h1 h2 =>
    rcases h1 with (h1 | ⟨o, h1⟩) | ⟨o, its, n, h1, h2, _⟩
    · exact .base (.lst (fh _ _ h1))
    · exact .base (.frz (fh _ _ h1))
    · exact .kList h1 h2
  | dic h1 h2 h3 h4 =>
    rcases h1 with h1 | ⟨o, h1⟩
    · exact .base (.dK (fh _ _ h1))
    · exact .fDict (fh _ _ h1)
  | dicT h1 h2 h3 h4 => exact .base (.dT (fh _ _ h1))
theorem ev_isi {n : Str} {T : String} {t : Bool} (hg : Gl X "isinstance") (hm : X.mg "isinstance" = none) (hg2 : Gl X n) (hm2 : X.mg n = none) (hv : bootBuiltins n = some (.type T)) (hn : n ≠ "__name__") (hdb : (n == ("__debug__" : Str)) = false) (na : Pl X a) (ha : EvZ X a σ F x)
    (hk : kitB (tyName x) T = some t) : EvD X (.Call (.Name "isinstance" p) [a, .Name n p2] [] pos) σ F 0 (.bl t) :=
  fun F1 H e1 e2 Q q => w_of (pe_callB call_isi hg hm (show bootBuiltins "isinstance" = some (.builtin "isinstance") by decide +kernel) (pa_cons pe_W (pa_cons (pe_bltn hg2 hm2 hv (v := .ty T) rfl hn hdb) pa_nil rfl) (na _)) (by decide) (by decide) (na _) rfl) (ha F1 H e1 e2 _ fun v F2 H2 st d1 =>
    ⟨v, .ty T, _, _, t, rfl, .ty T, dat_ty st.fh d1, kit_ty hk, give q st (.bl t)⟩)
theorem ty_int (x : D) : kitB (tyName x) "int" = some (match x with | .int _ => true | .bl _ => true | _ => false) := by
  cases x <;> (simp only [tyName]; decide +kernel)
theorem ty_bool (x : D) : kitB (tyName x) "bool" = some (match x with | .bl _ => true | _ => false) := by
  cases x <;> (simp only [tyName]; decide +kernel)
theorem ty_list (x : D) : kitB (tyName x) "list" = some (match x with | .lst _ => true | .rol _ => true | _ => false) := by
  cases x <;> (simp only [tyName]; decide +kernel)
theorem ty_tuple (x : D) : kitB (tyName x) "tuple" = some (match x with | .tup _ => true | .rot _ => true | _ => false) := by
  cases x <;> (simp only [tyName]; decide +kernel)
theorem ty_str (x : D) : kitB (tyName x) "str" = some (match x with | .str _ => true | _ => false) := by
  cases x <;> (simp only [tyName]; decide +kernel)

/-! ### list.index -/
theorem indexD_spec {K : PySem.W.Frag} {u : V} (hx : Dat K F u x) (fx : flat x = true) : ∀ {vs : List V} {ds : List D} {n : Nat}, Dats K F vs ds → ds.all flat = true → indexD ds x = some n →
    ∃ z, vs[n]? = some z ∧ eqV z u = true ∧ ∀ (m : Nat) (z' : V), m < n → vs[m]? = some z' → eqV z' u = false
  | _, _, _, .nil, _, h => by cases h
  | v :: vs, d :: ds, n, .cons h1 h2, f, h => by
    rw [List.all_cons, Bool.and_eq_true] at f
    unfold indexD at h
    split at h
    · rename_i hh
      cases h
      exact ⟨v, rfl, by rw [eqF_dat h1 hx f.1 fx]; exact hh, fun m _ hm => absurd hm (Nat.not_lt_zero _)⟩
    · rename_i hh
      obtain ⟨m, hm, rfl⟩ := Option.map_eq_some_iff.mp h
      obtain ⟨z, z1, z2, z3⟩ := indexD_spec hx fx h2 f.2 hm
      refine ⟨z, by simpa using z1, z2, fun j z' hj hz => ?_⟩
      cases j with
      | zero =>
        have e : v = z' := by simpa using hz
        subst e
        rw [eqF_dat h1 hx f.1 fx]
        simpa using hh
      | succ j => exact z3 j z' (by omega) (by simpa using hz)
theorem few1 (na : Pl X b) : ((backTo pos (starEach [b] X.env)).all (fun x => !x.1) && (backToKw pos (keywordEach [] X.env)).all (fun x => x.1.isSome) && decide (([b] : List Expr).length + ([] : List Keyword).length + (if ([] : List Keyword).isEmpty then 0 else 1) < 30)) = true := by
  rw [na []]; rfl
theorem ev_index {apos : Pos} {n : Nat} (ha : EvZ X a σ F (.lst ds)) (hb : EvZ X b σ F x) (h1 : flat x = true) (h2 : ds.all flat = true) (h : indexD ds x = some n) (na : Pl X b)
    (hbase : attributeBase a "index" X.env (eval a X.env) = eval a X.env) (hline : (apos.endLine == pos.line) = true) : EvD X (.Call (.Attribute a "index" apos) [b] [] pos) σ F 0 (.int (n : Nat)) :=
  fun F1 H e1 e2 Q q => w_of (pe_bm PySem.F.plainAttrs_list PySem.F.slot_list_index PySem.F.type_list_index mt_index pe_W (pa_cons pe_W pa_nil (na _)) hbase (few1 na) hline (na _) rfl) (ha F1 H e1 e2 _ fun v F2 H2 st d1 => by
    cases d1 with
    | lst g1 g2 g3 =>
      refine ⟨.inl ⟨rfl, _, .of (st.fh _ _ g1)⟩, hb F2 H2 (e1.trans st.ff) st.fh _ fun u F3 H3 s2 d2 => ?_⟩
      have g2' := g2.mono s2.ff
      obtain ⟨z, z1, z2, z3⟩ := indexD_spec d2 h1 g2' h2 h
      exact ⟨_, _, u, n, z, rfl, rfl, .of (s2.fh _ _ (s2.ff _ _ g1)), flat_dat d2 h1, flat_dats g2' h2, z1, z2, z3, give q (st.trans s2) (.int _)⟩)
end
end PV

set_option Elab.async false
set_option linter.all false
set_option maxRecDepth 100000
set_option maxHeartbeats 1000000
/-! PV, part G: slots, targets, what is walked, comprehensions. -/
namespace PV
open PySem PySem.Spec PyProof.Rows L2

/-! ### slots -/
structure SlotR (K : PySem.W.Frag) (F : Hp) (σ : L2.St) (ρ : Ro) : Prop where
  len : σ.length = ρ.length
  at_ : ∀ (i : Nat) d, ρ[i]? = some (some d) → ∃ v, σ[i]? = some (some v) ∧ Dat K F v d
section
variable {K : PySem.W.Frag} {F F' : Hp} {σ : L2.St} {ρ : Ro}
theorem SlotR.mono (h : SlotR K F σ ρ) (e : Ex F F') : SlotR K F' σ ρ := ⟨h.len, fun i d q => let ⟨v, h1, h2⟩ := h.at_ i d q; ⟨v, h1, h2.mono e⟩⟩
theorem SlotR.set {i : Nat} {v : V} {d : D} (h : SlotR K F σ ρ) (hd : Dat K F v d) : SlotR K F (σ.set i (some v)) (ρ.set i (some d)) := by
  refine ⟨by rw [List.length_set, List.length_set]; exact h.len, fun j d' q => ?_⟩
  by_cases z : i = j
  · subst z
    by_cases hl : i < ρ.length
    · rw [List.getElem?_set_self hl] at q
      cases q
      exact ⟨v, List.getElem?_set_self (by rw [h.len]; exact hl), hd⟩
    · rw [List.getElem?_eq_none (by rw [List.length_set]; omega)] at q; cases q
  · rw [List.getElem?_set_ne z] at q
    rw [List.getElem?_set_ne z]
    exact h.at_ j d' q
theorem SlotR.unset {i : Nat} (h : SlotR K F σ ρ) (o : Option V) : SlotR K F (σ.set i o) (ρ.set i none) := by
  refine ⟨by rw [List.length_set, List.length_set]; exact h.len, fun j d' q => ?_⟩
  by_cases z : i = j
  · subst z
    by_cases hl : i < ρ.length
    · rw [List.getElem?_set_self hl] at q; cases q
    · rw [List.getElem?_eq_none (by rw [List.length_set]; omega)] at q; cases q
  · rw [List.getElem?_set_ne z] at q
    rw [List.getElem?_set_ne z]
    exact h.at_ j d' q
theorem SlotR.wipe (h : SlotR K F σ ρ) : ∀ own : List Nat, SlotR K F (L2.wipe σ own) (wipeR ρ own)
  | [] => h
  | i :: is => (SlotR.wipe h is).unset none
theorem wipe_set {i : Nat} {o : Option V} : ∀ {σ : L2.St} {vs : List Nat}, i ∈ vs → L2.wipe (σ.set i o) vs = L2.wipe σ vs
  | σ, [], h => by cases h
  | σ, v :: vs, h => by
    unfold L2.wipe
    by_cases z : i ∈ vs
    · rw [wipe_set z]
    · have e : i = v := (List.mem_cons.mp h).resolve_right z
      subst e
      have comm : ∀ {σ : L2.St} {ws : List Nat}, i ∉ ws → L2.wipe (σ.set i o) ws = (L2.wipe σ ws).set i o := by
        intro σ ws
        induction ws generalizing σ with
        | nil => intro _; rfl
        | cons w ws ih =>
          intro hw
          have h1 : i ≠ w := fun q => hw (by rw [q]; exact List.mem_cons_self)
          have h2 : i ∉ ws := fun q => hw (List.mem_cons_of_mem _ q)
          unfold L2.wipe
          rw [ih h2, List.set_comm _ _ h1]
      rw [comm z, List.set_set]
end

/-! ### targets -/
def tgIdx : Tg → List Nat
  | .one i => [i]
  | .many is => is
/-- the reading of a target -/
def gMany (K : PySem.W.Frag) : List Nat → TGs
  | [] => gNil
  | i :: is => gCons (gName i) (gMany K is)
def gOf (K : PySem.W.Frag) : Tg → TG
  | .one i => gName i
  | .many is => gTup K is.length (gMany K is)
theorem many_ok {K : PySem.W.Frag} {F : Hp} : ∀ {is : List Nat} {vs : List V} {ds : List D} {σ : L2.St} {ρ : Ro} {H : Hp} {Q : L2.St → Hp → Prop}, SlotR K F σ ρ → Dats K F vs ds → ds.length = is.length →
    (∀ σ', SlotR K F σ' (asgs is ds ρ) → (∀ ws : List Nat, (∀ i ∈ is, i ∈ ws) → L2.wipe σ' ws = L2.wipe σ ws) → Q σ' H) → gMany K is vs σ H Q
  | [], vs, ds, σ, ρ, H, Q, hs, hd, hl, q => by
    have : ds = [] := List.eq_nil_of_length_eq_zero hl
    subst this
    cases hd
    exact ⟨rfl, q σ hs fun _ _ => rfl⟩
  | i :: is, vs, ds, σ, ρ, H, Q, hs, hd, hl, q => by
    cases hd with
    | nil => cases hl
    | cons h1 h2 =>
      refine ⟨_, _, rfl, ?_⟩
      show gMany K is _ (σ.set i (some _)) H Q
      refine many_ok (hs.set (i := i) h1) h2 (by simpa using hl) fun σ' s' w' => q σ' s' fun ws hw => ?_
      rw [w' ws fun j hj => hw j (List.mem_cons_of_mem _ hj), wipe_set (hw i List.mem_cons_self)]
theorem asg_ok {K : PySem.W.Frag} {F H : Hp} {tg : Tg} {v : V} {d : D} {σ : L2.St} {ρ ρ' : Ro} {Q : L2.St → Hp → Prop} (hs : SlotR K F σ ρ) (hd : Dat K F v d) (fh : Ex F H) (h : asg tg d ρ = some ρ')
    (q : ∀ σ', SlotR K F σ' ρ' → (∀ ws : List Nat, (∀ i ∈ tgIdx tg, i ∈ ws) → L2.wipe σ' ws = L2.wipe σ ws) → Q σ' H) : gOf K tg v σ H Q := by
  cases tg with
  | one i =>
    cases h
    exact q _ (hs.set hd) fun ws hw => wipe_set (hw i List.mem_cons_self)
  | many is =>
    cases hd <;> try (cases (show (none : Option Ro) = some ρ' from h))
    rename_i a vs ds h1 h2 h3
    obtain ⟨hl, rfl⟩ := if_some (show (if ds.length = is.length then some (asgs is ds ρ) else none) = some ρ' from h)
    exact ⟨a, vs, rfl, .of (fh _ _ h1), by rw [h2.length]; exact hl, many_ok hs h2 hl q⟩

/-! ### what is walked -/
structure Walks (K : PySem.W.Frag) (J : It) (F : Hp) (ds : List D) : Prop where
  len : ds.length ≤ cap
  go : ∀ i H, Ex F H → i < ds.length → J.go i H
  stop : ∀ H, Ex F H → J.stop ds.length H
  yld : ∀ (i : Nat) H x H' d F', Ex F F' → Ex F' H → ds[i]? = some d → J.yld i H x H' → ∃ F2, Stp F' H F2 H' ∧ Dat K F2 x d
def WI (X : Cx) (tg iter : Expr) : TI := fun σ H R => ∀ pins s, Inv X pins σ H s → wpAny (model X.prog X.w) X.A (eval iter X.env) (fun v s1 => wpAny (model X.prog X.w) X.A (pyIter v) (PIE X pins σ tg R) X.xe s1) X.xe s
theorem pi_W {X : Cx} {tg iter : Expr} : PI X tg iter (WI X tg iter) := ⟨fun pins s _ _ _ I h => h pins s I⟩
theorem wi_of {X : Cx} {tg iter : Expr} {t : TI} (h : PI X tg iter t) {σ : L2.St} {H : Hp} {R : It → Hp → Prop} (q : t σ H R) : WI X tg iter σ H R := fun pins s I => h.run pins s σ H R I q
def EvI (X : Cx) (tg iter : Expr) (σ : L2.St) (F : Hp) (ds : List D) : Prop :=
  ∀ F1 H, Ex F F1 → Ex F1 H → ∀ R : It → Hp → Prop, (∀ J F2 H2, Stp F1 H F2 H2 → Walks X.K J F2 ds → R J H2) → WI X tg iter σ H R
section
variable {X : Cx} {tg e a b : Expr} {σ : L2.St} {F F1 H : Hp} {d x y : D} {ds es : List D} {k : Nat} {pos p : Pos}
theorem getElem?_lt {α : Type} {l : List α} {i : Nat} (h : i < l.length) : ∃ x, l[i]? = some x := ⟨l[i], List.getElem?_eq_getElem h⟩
theorem ei_lst (h : EvZ X e σ F (.lst ds)) : EvI X tg e σ F ds := fun F1 H e1 e2 R q => wi_of (pi_list pe_W) (h F1 H e1 e2 _ fun v F2 H2 st d1 => by
  cases d1 with
  | lst h1 h2 h3 =>
    rename_i a vs
    refine ⟨a, rfl, ⟨vs, .of (st.fh _ _ h1)⟩, q _ F2 H2 st ⟨h3, fun i H fh hi => ?_, fun H fh => ⟨vs, .of (fh _ _ h1), by rw [h2.length]; exact Nat.le_refl _⟩, fun i H x H' d F' ef fh hd hy => ?_⟩⟩
    · obtain ⟨v, hv⟩ := getElem?_lt (show i < vs.length by rw [h2.length]; exact hi)
      exact ⟨vs, v, .of (fh _ _ h1), hv⟩
    · obtain ⟨rfl, hx⟩ := hy
      obtain ⟨v, hv, dv⟩ := h2.get hd
      have := hx vs (.of (fh _ _ (ef _ _ h1)))
      rw [hv] at this
      cases this
      exact ⟨F', .refl fh, dv.mono ef⟩)
theorem ei_tupC {tg : Expr} {l : Expr} {vs : List V} {a : Addr} (hs : SqT X.K F1 a vs) (h2 : Dats X.K F1 vs ds) (h3 : ds.length ≤ cap) : Walks X.K (Itt X.K a) F1 ds :=
  ⟨h3, fun i H fh hi => by
    obtain ⟨v, hv⟩ := getElem?_lt (show i < vs.length by rw [h2.length]; exact hi)
    exact ⟨vs, v, ex_t fh hs, hv⟩, fun H fh => ⟨vs, ex_t fh hs, by rw [h2.length]; exact Nat.le_refl _⟩, fun i H x H' d F' ef fh hd hy => by
    obtain ⟨rfl, hx⟩ := hy
    obtain ⟨v, hv, dv⟩ := h2.get hd
    have := hx vs (ex_t (ef.trans fh) hs)
    rw [hv] at this
    cases this
    exact ⟨F', .refl fh, dv.mono ef⟩⟩
theorem ei_tup (h : EvZ X e σ F (.tup ds)) : EvI X tg e σ F ds := fun F1 H e1 e2 R q => wi_of (pi_tup pe_W) (h F1 H e1 e2 _ fun v F2 H2 st d1 => by
  cases d1 with
  | tup h1 h2 h3 => exact ⟨_, rfl, ⟨_, .of (st.fh _ _ h1)⟩, q _ F2 H2 st (ei_tupC (tg := tg) (l := e) (.of h1) h2 h3)⟩)
theorem ei_rot (h : EvZ X e σ F (.rot ds)) : EvI X tg e σ F ds := fun F1 H e1 e2 R q => wi_of (pi_tup pe_W) (h F1 H e1 e2 _ fun v F2 H2 st d1 => by
  cases d1 with
  | rot h1 h2 h3 => exact ⟨_, rfl, ⟨_, ex_t st.fh h1⟩, q _ F2 H2 st (ei_tupC (tg := tg) (l := e) h1 h2 h3)⟩)
theorem rngD_length (n : Int) : (rngD n).length = n.toNat := by unfold rngD; rw [List.length_map, List.length_range]
theorem ei_rng {n : Int} (hg : Gl X "range") (hm : X.mg "range" = none) (na : Pl X a) (h : EvZ X a σ F (.int n)) (hn : n ≤ cap) (hn2 : -(2 ^ 62) ≤ n) : EvI X tg (.Call (.Name "range" p) [a] [] pos) σ F (rngD n) :=
  fun F1 H e1 e2 R q => wi_of (pi_range1 hg hm (pa_cons pe_W pa_nil (na [])) (na [])) (h F1 H e1 e2 _ fun v F2 H2 st d1 => by
    cases d1
    refine ⟨n, rfl, hn2, ?_, q _ F2 H2 st ⟨by rw [rngD_length]; have : (cap : Int) = 100000 := rfl; have : cap = 100000 := rfl; omega, fun i H fh hi => ?_, fun H fh => ?_, fun i H x H' d F' ef fh hd hy => ?_⟩⟩
    · have : (cap : Int) = 100000 := rfl
      omega
    · show i < n.toNat
      rw [← rngD_length]; exact hi
    · show n.toNat ≤ _
      rw [rngD_length]; exact Nat.le_refl _
    · obtain ⟨rfl, rfl⟩ := hy
      refine ⟨F', .refl fh, ?_⟩
      unfold rngD at hd
      rw [List.getElem?_map] at hd
      obtain ⟨j, hj, rfl⟩ := Option.map_eq_some_iff.mp hd
      have : i = j := by
        obtain ⟨hl, e⟩ := List.getElem?_eq_some_iff.mp hj
        rw [List.getElem_range] at e; exact e
      subst this
      rw [Int.zero_add]
      exact .int _)
theorem enumD_length : ∀ (n : Nat) (ds : List D), (enumD n ds).length = ds.length
  | _, [] => rfl
  | n, d :: ds => by unfold enumD; rw [List.length_cons, List.length_cons, enumD_length]
theorem enumD_get : ∀ (n i : Nat) (ds : List D) (d : D), (enumD n ds)[i]? = some d → ∃ x, ds[i]? = some x ∧ d = .tup [.int ((n + i : Nat) : Int), x]
  | _, _, [], _, h => by simp [enumD] at h
  | n, 0, x :: ds, d, h => by
    simp only [enumD, List.getElem?_cons_zero, Option.some.injEq] at h
    exact ⟨x, rfl, h.symm⟩
  | n, i + 1, x :: ds, d, h => by
    simp only [enumD, List.getElem?_cons_succ] at h
    obtain ⟨y, h1, h2⟩ := enumD_get (n + 1) i ds d h
    exact ⟨y, by simpa using h1, by rw [h2, show n + 1 + i = n + (i + 1) by omega]⟩
theorem ei_enm {elts : List Expr} {kk : Nat} {tpos : Pos} (hg : Gl X "enumerate") (hm : X.mg "enumerate" = none) (na : Pl X a) (h : EvZ X a σ F (.lst ds)) : EvI X (.Tuple elts kk tpos) (.Call (.Name "enumerate" p) [a] [] pos) σ F (enumD 0 ds) :=
  fun F1 H e1 e2 R q => wi_of (pi_enum hg hm (pa_cons pe_W pa_nil (na [])) (na [])) (h F1 H e1 e2 _ fun v F2 H2 st d1 => by
    cases d1 with
    | lst h1 h2 h3 =>
      rename_i a vs
      refine ⟨a, vs, rfl, .of (st.fh _ _ h1), q _ F2 H2 st ⟨by rw [enumD_length]; exact h3, fun i H fh hi => ?_, fun H fh => ⟨vs, .of (fh _ _ h1), by rw [h2.length, enumD_length]; exact Nat.le_refl _⟩, fun i H x H' d F' ef fh hd hy => ?_⟩⟩
      · obtain ⟨v, hv⟩ := getElem?_lt (show i < vs.length by rw [h2.length, ← enumD_length 0]; exact hi)
        exact ⟨vs, v, .of (fh _ _ h1), hv⟩
      · obtain ⟨T, w, rfl, hT, rfl, hw⟩ := hy
        obtain ⟨y, hy, rfl⟩ := enumD_get 0 i ds d hd
        obtain ⟨v, hv, dv⟩ := h2.get hy
        have := hw vs (.of (fh _ _ (ef _ _ h1)))
        rw [hv] at this
        cases this
        refine ⟨_, .new fh hT, dat_tup fh hT (.cons ?_ (.one (dv.mono ef))) (show 2 ≤ cap by decide)⟩
        rw [Nat.zero_add]
        exact .int _)
theorem zipD_length : ∀ (ds es : List D), (zipD ds es).length = min ds.length es.length
  | [], _ => by simp [zipD]
  | _ :: _, [] => by simp [zipD]
  | d :: ds, e :: es => by unfold zipD; rw [List.length_cons, List.length_cons, List.length_cons, zipD_length]; omega
theorem zipD_get : ∀ (i : Nat) (ds es : List D) (d : D), (zipD ds es)[i]? = some d → ∃ x y, ds[i]? = some x ∧ es[i]? = some y ∧ d = .tup [x, y]
  | _, [], _, _, h => by simp [zipD] at h
  | _, _ :: _, [], _, h => by simp [zipD] at h
  | 0, x :: ds, y :: es, d, h => by
    simp only [zipD, List.getElem?_cons_zero, Option.some.injEq] at h
    exact ⟨x, y, rfl, rfl, h.symm⟩
  | i + 1, x :: ds, y :: es, d, h => by
    simp only [zipD, List.getElem?_cons_succ] at h
    obtain ⟨u, w, h1, h2, h3⟩ := zipD_get i ds es d h
    exact ⟨u, w, by simpa using h1, by simpa using h2, h3⟩
theorem ei_zip {elts : List Expr} {kk : Nat} {tpos : Pos} (hg : Gl X "zip") (hm : X.mg "zip" = none) (na : Pl X a) (nb : Pl X b) (ha : EvZ X a σ F (.lst ds)) (hb : EvZ X b σ F (.lst es)) : EvI X (.Tuple elts kk tpos) (.Call (.Name "zip" p) [a, b] [] pos) σ F (zipD ds es) :=
  fun F1 H e1 e2 R q => wi_of (pi_zip hg hm (pa_cons pe_W (pa_cons pe_W pa_nil (nb [])) (na _)) (na _) (by rw [nb []]; rfl)) (ev2 ha hb e1 e2 fun v u F2 H2 st d1 d2 => by
    cases d1 with
    | lst h1 h2 h3 =>
      cases d2 with
      | lst g1 g2 g3 =>
        rename_i a vs b ws
        refine ⟨a, b, vs, ws, rfl, .of (st.fh _ _ h1), .of (st.fh _ _ g1), q _ F2 H2 st ⟨by rw [zipD_length]; omega, fun i H fh hi => ?_, fun H fh => ⟨vs, ws, .of (fh _ _ h1), .of (fh _ _ g1), ?_⟩, fun i H x H' d F' ef fh hd hy => ?_⟩⟩
        · rw [zipD_length] at hi
          obtain ⟨v, hv⟩ := getElem?_lt (show i < vs.length by rw [h2.length]; omega)
          obtain ⟨w, hw⟩ := getElem?_lt (show i < ws.length by rw [g2.length]; omega)
          exact ⟨vs, ws, v, w, .of (fh _ _ h1), .of (fh _ _ g1), hv, hw⟩
        · rw [zipD_length, h2.length, g2.length]; omega
        · obtain ⟨T, w, w', rfl, hT, rfl, hw, hw'⟩ := hy
          obtain ⟨y, y', hy, hy', rfl⟩ := zipD_get i ds es d hd
          obtain ⟨v, hv, dv⟩ := h2.get hy
          obtain ⟨u, hu, du⟩ := g2.get hy'
          have z1 := hw vs (.of (fh _ _ (ef _ _ h1)))
          have z2 := hw' ws (.of (fh _ _ (ef _ _ g1)))
          rw [hv] at z1
          rw [hu] at z2
          cases z1; cases z2
          exact ⟨_, .new fh hT, dat_tup fh hT (.cons (dv.mono ef) (.one (du.mono ef))) (show 2 ≤ cap by decide)⟩)
end
end PV

set_option Elab.async false
set_option linter.all false
set_option maxRecDepth 100000
set_option maxHeartbeats 1000000
/-! PV, part H: comprehensions; dicts walked (locked). -/
namespace PV
open PySem PySem.Spec PyProof.Rows L2
theorem Stp.updD {F H F' H' : Hp} {p : Addr} {o : HO} (st : Stp F H F' H') (h1 : F' p = none) (h2 : H p = none) : Stp F H F' (upd H' p o) :=
  ⟨st.ff, fun a u e => by rw [upd_ne (ne_of_none e h2)]; exact st.hh a u e, fun a u e => by rw [upd_ne (ne_of_none e h1)]; exact st.fh a u e, st.nw⟩
theorem Stp.lse {F H F' H' : Hp} {p : Addr} (st : Stp F H F' H') (h1 : F p = none) (h2 : H p ≠ none) : F' p = none := by
  cases q : F' p with
  | none => rfl
  | some u =>
    rcases st.nw p (by rw [q]; exact fun z => nomatch z) with z | z
    · exact absurd h1 z
    · exact absurd z h2
def WTs (X : Cx) (ifs : List Expr) : TT := fun σ H Q => ∀ pins s, Inv X pins σ H s →
    wpAny (model X.prog X.w) X.A (forIn ifs true fun c r => if r = true then do let ok ← isTrue c X.env (eval c X.env); pure (ForInStep.yield ok) else pure (ForInStep.yield r)) (TP X pins σ Q) X.xe s
theorem pts_W {X : Cx} {ifs : List Expr} : PTs X ifs (WTs X ifs) := ⟨fun pins s _ _ _ I h => h pins s I⟩
theorem wts_of {X : Cx} {ifs : List Expr} {t : TT} (h : PTs X ifs t) {σ : L2.St} {H : Hp} {Q : Bool → Hp → Prop} (q : t σ H Q) : WTs X ifs σ H Q := fun pins s I => h.run pins s σ H Q I q
def EvTs (X : Cx) (ifs : List Expr) (σ : L2.St) (F : Hp) (b : Bool) : Prop :=
  ∀ F1 H, Ex F F1 → Ex F1 H → ∀ Q : Bool → Hp → Prop, (∀ F2 H2, Stp F1 H F2 H2 → Q b H2) → WTs X ifs σ H Q
theorem ets_nil {X : Cx} {σ : L2.St} {F : Hp} : EvTs X [] σ F true := fun F1 H e1 e2 Q q => wts_of pts_nil (q F1 H (.refl e2))
theorem ets_one {X : Cx} {c : Expr} {σ : L2.St} {F : Hp} {b : Bool} (h : EvT X c σ F b) : EvTs X [c] σ F b := fun F1 H e1 e2 Q q => wts_of (pts_one pt_W) (h F1 H e1 e2 Q q)

section
variable {X : Cx} {elt tgE iter : Expr} {ifs : List Expr} {scope : Scope} {own : List (Str × Nat)} {pos : Pos} {tg : Tg} {σ : L2.St} {F : Hp} {ρ : Ro} {ds ys : List D} {t g : Ro → Option (Nat × D)}
theorem lcL_len (tg : Tg) (t g : Ro → Option (Nat × D)) (ρ : Ro) : ∀ (ds ys : List D), lcL tg t g ρ ds = some ys → ys.length ≤ ds.length
  | [], ys, h => by cases h; exact Nat.le_refl _
  | d :: ds, ys, h => by
    unfold lcL at h
    split at h
    · cases h
    · split at h
      · split at h
        · split at h
          · rename_i zs hz
            cases h
            have := lcL_len tg t g ρ ds zs hz
            simp only [List.length_cons]; omega
          · cases h
        · cases h
      · have := lcL_len tg t g ρ ds ys h
        simp only [List.length_cons]; omega
      · cases h
/-- the reading of a list comprehension -/
theorem lc_read (hi : EvI X tgE iter σ F ds) (hs : SlotR X.K F σ ρ) (hsub : ∀ i ∈ tgIdx tg, i ∈ own.map (·.2))
    {tt : TT} {te : TE}
    (ht : ∀ F' σ' ρ' b k, Ex F F' → SlotR X.K F' σ' ρ' → t ρ' = some (k, .bl b) → ∀ F1 H, Ex F' F1 → Ex F1 H → ∀ Q : Bool → Hp → Prop, (∀ F2 H2, Stp F1 H F2 H2 → Q b H2) → tt σ' H Q)
    (he : ∀ F' σ' ρ' k y, Ex F F' → SlotR X.K F' σ' ρ' → g ρ' = some (k, y) → ∀ F1 H, Ex F' F1 → Ex F1 H → ∀ Q : VK, (∀ v F2 H2, Stp F1 H F2 H2 → Dat X.K F2 v y → Q v H2) → te σ' H Q)
    (h : lcL tg t g (wipeR ρ (own.map (·.2))) ds = some ys) {F1 H : Hp} (e1 : Ex F F1) (e2 : Ex F1 H) {Q : VK}
    (q : ∀ v F2 H2 fp, Stp F1 H F2 H2 → Own X.K F2 H2 1 v (.lst ys) fp → (∀ a ∈ fp, H a = none) → Q v H2) : tLc (WI X tgE iter) (gOf X.K tg) tt te (own.map (·.2)) σ H Q := by
  refine hi F1 H e1 e2 _ fun J Fa Ha sa wk => fun D hD => ?_
  have hylen := lcL_len _ _ _ _ _ _ h
  have hl := wk.len
  refine ⟨fun i m H' => i + m = ds.length ∧ ∃ F' vs ya yb, Stp F1 H F' H' ∧ Ex Fa F' ∧ H' D = some (.lst vs) ∧ F' D = none ∧ Dats X.K F' vs ya ∧ lcL tg t g (wipeR ρ (own.map (·.2))) (ds.drop i) = some yb ∧ ys = ya ++ yb,
    ⟨ds.length, by omega, Fa, [], [], ys, (sa.trans (.loose sa.fh hD)), .refl _, upd_same, sa.fh.free hD, .nil, by rw [List.drop_zero]; exact h, rfl⟩, ?_⟩
  rintro i m H' ⟨hm, F', vs, ya, yb, st, fa, hD', hF', hv, hyb, rfl⟩
  have hDH : H D = none := sa.hh.free hD
  by_cases hlt : i < ds.length
  · obtain ⟨d, hd⟩ := getElem?_lt hlt
    have hdrop : ds.drop i = d :: ds.drop (i + 1) := by
      obtain ⟨hl', e⟩ := List.getElem?_eq_some_iff.mp hd
      rw [← e]; exact List.drop_eq_getElem_cons hl'
    refine .inr ⟨wk.go i H' (fa.trans st.fh) hlt, fun H'' => i + 1 + (m - 1) = ds.length ∧ ∃ F' vs ya' yb', Stp F1 H F' H'' ∧ Ex Fa F' ∧ H'' D = some (.lst vs) ∧ F' D = none ∧ Dats X.K F' vs ya' ∧ lcL tg t g (wipeR ρ (own.map (·.2))) (ds.drop (i + 1)) = some yb' ∧ ya ++ yb = ya' ++ yb',
      fun H'' hn => ⟨m - 1, by omega, hn⟩, fun x Hx hy => ?_⟩
    obtain ⟨Fx, sx, dx⟩ := wk.yld i H' x Hx d F' fa st.fh hd hy
    rw [hdrop] at hyb
    unfold lcL at hyb
    split at hyb
    · cases hyb
    · rename_i ρ1 hasg
      have hsx : SlotR X.K Fx (L2.wipe σ (own.map (·.2))) (wipeR ρ (own.map (·.2))) := (hs.mono (e1.trans (st.ff.trans sx.ff))).wipe _
      refine asg_ok hsx dx sx.fh hasg fun σ2 hs2 hw => ⟨?_, ?_⟩
      · rw [hw _ hsub]
        have : ∀ (ws : List Nat) (σ : L2.St), L2.wipe (L2.wipe σ ws) ws = L2.wipe σ ws := by
          intro ws σ
          have gen : ∀ (us : List Nat) (σ : L2.St), (∀ i ∈ us, i ∈ ws) → L2.wipe (L2.wipe σ us) ws = L2.wipe σ ws := by
            intro us
            induction us with
            | nil => intro σ _; rfl
            | cons u us ih =>
              intro σ hu
              show L2.wipe ((L2.wipe σ us).set u none) ws = _
              rw [wipe_set (hu u List.mem_cons_self), ih σ fun j hj => hu j (List.mem_cons_of_mem _ hj)]
          exact gen ws σ fun _ h => h
        exact this _ _
      have efx : Ex F Fx := e1.trans (st.ff.trans sx.ff)
      have lx : Fx D = none := sx.lse hF' (by rw [hD']; exact fun z => nomatch z)
      split at hyb
      · rename_i kk hcond
        refine ht Fx σ2 ρ1 true kk efx hs2 hcond Fx Hx (.refl _) sx.fh _ fun F3 H3 s3 => iteT ?_
        split at hyb
        · rename_i k2 y hy2
          refine he Fx σ2 ρ1 k2 y efx hs2 hy2 F3 H3 s3.ff s3.fh _ fun v F4 H4 s4 dv => ?_
          have hxD : Hx D = some (.lst vs) := sx.hh _ _ hD'
          have h3D : H3 D = some (.lst vs) := s3.hh _ _ hxD
          have h4D : H4 D = some (.lst vs) := s4.hh _ _ h3D
          have l3 : F3 D = none := s3.lse lx (by rw [hxD]; exact fun z => nomatch z)
          have l4 : F4 D = none := s4.lse l3 (by rw [h3D]; exact fun z => nomatch z)
          split at hyb
          · rename_i zs hzs
            cases hyb
            have hvl := hv.length
            refine ⟨vs, h4D, cap_lt ?_, by omega, F4, vs ++ [v], ya ++ [y], zs, (((st.trans sx).trans s3).trans s4).updD l4 hDH, fa.trans (sx.ff.trans (s3.ff.trans s4.ff)), upd_same, l4, (hv.mono (sx.ff.trans (s3.ff.trans s4.ff))).app (.one dv), hzs, by simp⟩
            have : ya.length ≤ ds.length := by
              have := hylen
              rw [List.length_append] at this
              omega
            omega
          · cases hyb
        · cases hyb
      · rename_i kk hcond
        refine ht Fx σ2 ρ1 false kk efx hs2 hcond Fx Hx (.refl _) sx.fh _ fun F3 H3 s3 => iteF ?_
        have hxD : Hx D = some (.lst vs) := sx.hh _ _ hD'
        have h3D : H3 D = some (.lst vs) := s3.hh _ _ hxD
        have l3 : F3 D = none := s3.lse lx (by rw [hxD]; exact fun z => nomatch z)
        exact ⟨by omega, F3, vs, ya, yb, (st.trans sx).trans s3, fa.trans (sx.ff.trans s3.ff), h3D, l3, hv.mono (sx.ff.trans s3.ff), hyb, rfl⟩
      · cases hyb
  · have e : i = ds.length := by omega
    subst e
    rw [List.drop_length] at hyb
    cases hyb
    rw [List.append_nil] at q hylen
    refine .inl ⟨wk.stop H' (fa.trans st.fh), q _ F' H' [D] st (.lst hD' hF' (owns_zero hv) (by simp) (by omega)) fun a ha => ?_⟩
    have e : a = D := by simpa using ha
    rw [e]; exact hDH
end
end PV

set_option Elab.async false
set_option linter.all false
set_option maxRecDepth 100000
set_option maxHeartbeats 1000000
/-! PV, part I: dict comprehensions; dicts walked (locked). -/
namespace PV
open PySem PySem.Spec PyProof.Rows L2
section
variable {K : PySem.W.Frag} {F : Hp} {κ : Type} [DecidableEq κ]
theorem put_dat {kvs : List (κ × V)} {ds : List (κ × D)} {k : κ} {v : V} {d : D} (hk : kvs.map (·.1) = ds.map (·.1)) (hv : Dats K F (kvs.map (·.2)) (ds.map (·.2))) (h : Dat K F v d) :
    (putK kvs k v).map (·.1) = (putD ds k d).map (·.1) ∧ Dats K F ((putK kvs k v).map (·.2)) ((putD ds k d).map (·.2)) := by
  have any_eq : ∀ {kvs : List (κ × V)} {ds : List (κ × D)}, kvs.map (·.1) = ds.map (·.1) → (kvs.any fun kv => decide (kv.1 = k)) = ds.any fun kv => decide (kv.1 = k) := by
    intro kvs
    induction kvs with
    | nil => intro ds e; cases ds with
      | nil => rfl
      | cons _ _ => simp at e
    | cons p r ih => intro ds e; cases ds with
      | nil => simp at e
      | cons q s =>
        simp only [List.map_cons, List.cons.injEq] at e
        rw [List.any_cons, List.any_cons, e.1, ih e.2]
  unfold putK putD
  rw [any_eq hk]
  split
  · refine ⟨?_, ?_⟩
    · have f1 : ∀ (l : List (κ × V)), (l.map fun kv => if kv.1 = k then (kv.1, v) else kv).map (·.1) = l.map (·.1) := by
        intro l; rw [List.map_map]; congr 1; funext kv; simp only [Function.comp]; split <;> rfl
      have f2 : ∀ (l : List (κ × D)), (l.map fun kv => if kv.1 = k then (kv.1, d) else kv).map (·.1) = l.map (·.1) := by
        intro l; rw [List.map_map]; congr 1; funext kv; simp only [Function.comp]; split <;> rfl
      rw [f1, f2]; exact hk
    · have go : ∀ {kvs : List (κ × V)} {ds : List (κ × D)}, kvs.map (·.1) = ds.map (·.1) → Dats K F (kvs.map (·.2)) (ds.map (·.2)) → Dats K F ((kvs.map fun kv => if kv.1 = k then (kv.1, v) else kv).map (·.2)) ((ds.map fun kv => if kv.1 = k then (kv.1, d) else kv).map (·.2)) := by
        intro kvs
        induction kvs with
        | nil => intro ds e _; cases ds with
          | nil => exact .nil
          | cons _ _ => simp at e
        | cons p r ih => intro ds e hv; cases ds with
          | nil => simp at e
          | cons q s =>
            simp only [List.map_cons, List.cons.injEq] at e
            cases hv with
            | cons g1 g2 =>
              simp only [List.map_cons]
              refine .cons ?_ (ih e.2 g2)
              rw [e.1]
              split
              · exact h
              · exact g1
      exact go hk hv
  · refine ⟨?_, ?_⟩
    · rw [List.map_append, List.map_append, hk]; rfl
    · rw [List.map_append, List.map_append]; exact hv.app (.one h)
theorem putD_le (ds : List (κ × D)) (k : κ) (d : D) : (putD ds k d).length ≤ ds.length + 1 := by
  unfold putD
  split
  · rw [List.length_map]; omega
  · rw [List.length_append]; exact Nat.le_refl _
theorem drop_dat {k : κ} : ∀ {kvs : List (κ × V)} {ds : List (κ × D)}, kvs.map (·.1) = ds.map (·.1) → Dats K F (kvs.map (·.2)) (ds.map (·.2)) →
    (dropK kvs k).map (·.1) = (dropD ds k).map (·.1) ∧ Dats K F ((dropK kvs k).map (·.2)) ((dropD ds k).map (·.2))
  | [], [], _, _ => ⟨rfl, .nil⟩
  | [], _ :: _, e, _ => by simp at e
  | _ :: _, [], e, _ => by simp at e
  | (a, v) :: r, (b, d) :: s, e, h => by
    simp only [List.map_cons, List.cons.injEq] at e
    obtain ⟨e1, e2⟩ := e
    subst e1
    cases h with
    | cons h1 h2 =>
      obtain ⟨i1, i2⟩ := drop_dat (k := k) e2 h2
      unfold dropK dropD at i1 i2 ⊢
      by_cases z : a = k
      · simp only [List.filter_cons, z, ne_eq, not_true_eq_false, decide_false, Bool.false_eq_true, if_false]
        exact ⟨i1, i2⟩
      · simp only [List.filter_cons, z, ne_eq, not_false_eq_true, decide_true, if_true, List.map_cons]
        exact ⟨by rw [i1], .cons h1 i2⟩
end
section
variable {X : Cx} {kx vx tgE iter : Expr} {ifs : List Expr} {scope : Scope} {own : List (Str × Nat)} {pos : Pos} {tg : Tg} {σ : L2.St} {F : Hp} {ρ : Ro} {ds : List D} {ys : List (Key × D)} {t gk gv : Ro → Option (Nat × D)}
/-- the reading of a dict comprehension -/
theorem dc_read (hi : EvI X tgE iter σ F ds) (hs : SlotR X.K F σ ρ) (hsub : ∀ i ∈ tgIdx tg, i ∈ own.map (·.2))
    {tt : TT} {tk tv : TE}
    (ht : ∀ F' σ' ρ' b k, Ex F F' → SlotR X.K F' σ' ρ' → t ρ' = some (k, .bl b) → ∀ F1 H, Ex F' F1 → Ex F1 H → ∀ Q : Bool → Hp → Prop, (∀ F2 H2, Stp F1 H F2 H2 → Q b H2) → tt σ' H Q)
    (hk : ∀ F' σ' ρ' k y, Ex F F' → SlotR X.K F' σ' ρ' → gk ρ' = some (k, y) → ∀ F1 H, Ex F' F1 → Ex F1 H → ∀ Q : VK, (∀ v F2 H2, Stp F1 H F2 H2 → Dat X.K F2 v y → Q v H2) → tk σ' H Q)
    (he : ∀ F' σ' ρ' k y, Ex F F' → SlotR X.K F' σ' ρ' → gv ρ' = some (k, y) → ∀ F1 H, Ex F' F1 → Ex F1 H → ∀ Q : VK, (∀ v F2 H2, Stp F1 H F2 H2 → Dat X.K F2 v y → Q v H2) → tv σ' H Q)
    (h : dcL tg t gk gv (wipeR ρ (own.map (·.2))) ds [] = some ys) {F1 H : Hp} (e1 : Ex F F1) (e2 : Ex F1 H) {Q : VK}
    (q : ∀ v F2 H2 fp, Stp F1 H F2 H2 → Own X.K F2 H2 1 v (.dic ys) fp → (∀ a ∈ fp, H a = none) → Q v H2) : tDc (WI X tgE iter) (gOf X.K tg) tt tk tv (own.map (·.2)) σ H Q := by
  refine hi F1 H e1 e2 _ fun J Fa Ha sa wk => fun D hD => ?_
  have hl := wk.len
  refine ⟨fun i m H' => i + m = ds.length ∧ ∃ F' kvs acc, Stp F1 H F' H' ∧ Ex Fa F' ∧ H' D = some (.dK kvs) ∧ F' D = none ∧ kvs.map (·.1) = acc.map (·.1) ∧ Dats X.K F' (kvs.map (·.2)) (acc.map (·.2)) ∧ acc.length ≤ i ∧ dcL tg t gk gv (wipeR ρ (own.map (·.2))) (ds.drop i) acc = some ys,
    ⟨ds.length, by omega, Fa, [], [], (sa.trans (.loose sa.fh hD)), .refl _, upd_same, sa.fh.free hD, rfl, .nil, Nat.le_refl _, by rw [List.drop_zero]; exact h⟩, ?_⟩
  rintro i m H' ⟨hm, F', kvs, acc, st, fa, hD', hF', hkk, hv, hal, hyb⟩
  have hDH : H D = none := sa.hh.free hD
  by_cases hlt : i < ds.length
  · obtain ⟨d, hd⟩ := getElem?_lt hlt
    have hdrop : ds.drop i = d :: ds.drop (i + 1) := by
      obtain ⟨hl', e⟩ := List.getElem?_eq_some_iff.mp hd
      rw [← e]; exact List.drop_eq_getElem_cons hl'
    refine .inr ⟨wk.go i H' (fa.trans st.fh) hlt, fun H'' => i + 1 + (m - 1) = ds.length ∧ ∃ F' kvs acc, Stp F1 H F' H'' ∧ Ex Fa F' ∧ H'' D = some (.dK kvs) ∧ F' D = none ∧ kvs.map (·.1) = acc.map (·.1) ∧ Dats X.K F' (kvs.map (·.2)) (acc.map (·.2)) ∧ acc.length ≤ i + 1 ∧ dcL tg t gk gv (wipeR ρ (own.map (·.2))) (ds.drop (i + 1)) acc = some ys,
      fun H'' hn => ⟨m - 1, by omega, hn⟩, fun x Hx hy => ?_⟩
    obtain ⟨Fx, sx, dx⟩ := wk.yld i H' x Hx d F' fa st.fh hd hy
    rw [hdrop] at hyb
    unfold dcL at hyb
    split at hyb
    · cases hyb
    · rename_i ρ1 hasg
      have hsx : SlotR X.K Fx (L2.wipe σ (own.map (·.2))) (wipeR ρ (own.map (·.2))) := (hs.mono (e1.trans (st.ff.trans sx.ff))).wipe _
      refine asg_ok hsx dx sx.fh hasg fun σ2 hs2 hw => ⟨?_, ?_⟩
      · rw [hw _ hsub]
        have : ∀ (ws : List Nat) (σ : L2.St), L2.wipe (L2.wipe σ ws) ws = L2.wipe σ ws := by
          intro ws σ
          have gen : ∀ (us : List Nat) (σ : L2.St), (∀ i ∈ us, i ∈ ws) → L2.wipe (L2.wipe σ us) ws = L2.wipe σ ws := by
            intro us
            induction us with
            | nil => intro σ _; rfl
            | cons u us ih =>
              intro σ hu
              show L2.wipe ((L2.wipe σ us).set u none) ws = _
              rw [wipe_set (hu u List.mem_cons_self), ih σ fun j hj => hu j (List.mem_cons_of_mem _ hj)]
          exact gen ws σ fun _ h => h
        exact this _ _
      have efx : Ex F Fx := e1.trans (st.ff.trans sx.ff)
      have lx : Fx D = none := sx.lse hF' (by rw [hD']; exact fun z => nomatch z)
      have hxD : Hx D = some (.dK kvs) := sx.hh _ _ hD'
      split at hyb
      · rename_i kk hcond
        refine ht Fx σ2 ρ1 true kk efx hs2 hcond Fx Hx (.refl _) sx.fh _ fun F3 H3 s3 => iteT ?_
        split at hyb
        · rename_i k2 y k3 z hy2 hz2
          refine hk Fx σ2 ρ1 k2 y efx hs2 hy2 F3 H3 s3.ff s3.fh _ fun v F4 H4 s4 dv => ?_
          refine he Fx σ2 ρ1 k3 z efx hs2 hz2 F4 H4 (s3.ff.trans s4.ff) s4.fh _ fun u F5 H5 s5 du => ?_
          have h3D : H3 D = some (.dK kvs) := s3.hh _ _ hxD
          have h4D : H4 D = some (.dK kvs) := s4.hh _ _ h3D
          have h5D : H5 D = some (.dK kvs) := s5.hh _ _ h4D
          have l3 : F3 D = none := s3.lse lx (by rw [hxD]; exact fun z => nomatch z)
          have l4 : F4 D = none := s4.lse l3 (by rw [h3D]; exact fun z => nomatch z)
          have l5 : F5 D = none := s5.lse l4 (by rw [h4D]; exact fun z => nomatch z)
          split at hyb
          · rename_i key hkey
            have hvl : kvs.length = acc.length := by simpa using congrArg List.length hkk
            have m5 := hv.mono (sx.ff.trans (s3.ff.trans (s4.ff.trans s5.ff)))
            obtain ⟨p1, p2⟩ := put_dat (k := key) hkk m5 du
            exact ⟨kvs, key, key_dat dv hkey, h5D, cap_lt (by omega), by omega, F5, _, _, ((((st.trans sx).trans s3).trans s4).trans s5).updD l5 hDH, fa.trans (sx.ff.trans (s3.ff.trans (s4.ff.trans s5.ff))), upd_same, l5, p1, p2, Nat.le_trans (putD_le _ _ _) (by omega), hyb⟩
          · cases hyb
        · cases hyb
      · rename_i kk hcond
        refine ht Fx σ2 ρ1 false kk efx hs2 hcond Fx Hx (.refl _) sx.fh _ fun F3 H3 s3 => iteF ?_
        have h3D : H3 D = some (.dK kvs) := s3.hh _ _ hxD
        have l3 : F3 D = none := s3.lse lx (by rw [hxD]; exact fun z => nomatch z)
        exact ⟨by omega, F3, kvs, acc, (st.trans sx).trans s3, fa.trans (sx.ff.trans s3.ff), h3D, l3, hkk, hv.mono (sx.ff.trans s3.ff), by omega, hyb⟩
      · cases hyb
  · have e : i = ds.length := by omega
    subst e
    rw [List.drop_length] at hyb
    cases hyb
    refine .inl ⟨wk.stop H' (fa.trans st.fh), q _ F' H' [D] st (.dic hD' hF' hkk (owns_zero hv) (by simp) (by omega)) fun a ha => ?_⟩
    have e : a = D := by simpa using ha
    rw [e]; exact hDH
end

/-! ### locks -/
section
variable {K : PySem.W.Frag} {F F' : Hp} {p : Addr} {od : Obj} {kvs : List (Key × V)}
/-- G is F but at p, where the dict is locked in the one of them -/
structure Lkd (p : Addr) (od : Obj) (kvs : List (Key × V)) (F G : Hp) : Prop where
  free : F p = some (.dK kvs)
  lock : G p = some (.frz od (.dK kvs))
  same : ∀ a, a ≠ p → G a = F a
theorem Lkd.of (h : F p = some (.dK kvs)) : Lkd p od kvs F (upd F p (.frz od (.dK kvs))) := ⟨h, upd_same, fun a ha => upd_ne ha⟩
theorem Lkd.un (h : F p = some (.frz od (.dK kvs))) : Lkd p od kvs (upd F p (.dK kvs)) F := ⟨upd_same, h, fun a ha => (upd_ne ha).symm⟩
variable {G : Hp}
theorem Lkd.rd (l : Lkd p od kvs F G) {a : Addr} {u : HO} (h : Rd F a u) : Rd G a u := by
  by_cases z : a = p
  · subst z
    rcases h with h | ⟨o, h⟩
    · rw [l.free] at h; cases h; exact .inr ⟨od, l.lock⟩
    · rw [l.free] at h; cases h
  · rcases h with h | ⟨o, h⟩
    · exact .inl ((l.same a z).trans h)
    · exact .inr ⟨o, (l.same a z).trans h⟩
theorem Lkd.rdU (l : Lkd p od kvs F G) {a : Addr} {u : HO} (h : Rd G a u) (hu : ∀ o v, u ≠ .frz o v) : Rd F a u := by
  by_cases z : a = p
  · subst z
    rcases h with h | ⟨o, h⟩
    · rw [l.lock] at h; cases h; exact absurd rfl (hu _ _)
    · rw [l.lock] at h; cases h; exact .inl l.free
  · rcases h with h | ⟨o, h⟩
    · exact .inl ((l.same a z).symm.trans h)
    · exact .inr ⟨o, (l.same a z).symm.trans h⟩
theorem Lkd.plain (l : Lkd p od kvs F G) {a : Addr} {u : HO} (h : F a = some u) (hu : ∀ ks, u ≠ .dK ks) : G a = some u := by
  by_cases z : a = p
  · subst z; rw [l.free] at h; cases h; exact absurd rfl (hu _)
  · exact (l.same a z).trans h
theorem Lkd.plainU (l : Lkd p od kvs F G) {a : Addr} {u : HO} (h : G a = some u) (hu : ∀ o v, u ≠ .frz o v) : F a = some u := by
  by_cases z : a = p
  · subst z; rw [l.lock] at h; cases h; exact absurd rfl (hu _ _)
  · exact (l.same a z).symm.trans h
mutual
theorem Lkd.dat (l : Lkd p od kvs F G) : ∀ {v : V} {d : D}, Dat K F v d → Dat K G v d
  | _, _, .non => .non
  | _, _, .bl b => .bl b
  | _, _, .int i => .int i
  | _, _, .str x => .str x
  | _, _, .lst h1 h2 h3 => .lst (l.plain h1 fun _ z => nomatch z) (Lkd.dats l h2) h3
  | _, _, .tup h1 h2 h3 => .tup (l.plain h1 fun _ z => nomatch z) (Lkd.dats l h2) h3
  | _, _, .rot (.inl h1) h2 h3 => .rot (.inl (l.rd h1)) (Lkd.dats l h2) h3
  | _, _, .rot (.inr h1) h2 h3 => .rot (.inr h1) (Lkd.dats l h2) h3
  | _, _, .rol (.inl h1) h2 => .rol (.inl (l.rd h1)) h2
  | _, _, .rol (.inr h1) h2 => .rol (.inr h1) h2
  | _, _, .dic h1 h2 h3 h4 => .dic (l.rd h1) h2 (Lkd.dats l h3) h4
  | _, _, .dicT h1 h2 h3 h4 => .dicT (l.plain h1 fun _ z => nomatch z) h2 (Lkd.dats l h3) h4
theorem Lkd.dats (l : Lkd p od kvs F G) : ∀ {vs : List V} {ds : List D}, Dats K F vs ds → Dats K G vs ds
  | _, _, .nil => .nil
  | _, _, .cons h1 h2 => .cons (Lkd.dat l h1) (Lkd.dats l h2)
end
mutual
theorem Lkd.datU (l : Lkd p od kvs F G) : ∀ {v : V} {d : D}, Dat K G v d → Dat K F v d
  | _, _, .non => .non
  | _, _, .bl b => .bl b
  | _, _, .int i => .int i
  | _, _, .str x => .str x
  | _, _, .lst h1 h2 h3 => .lst (l.plainU h1 fun _ _ z => nomatch z) (Lkd.datsU l h2) h3
  | _, _, .tup h1 h2 h3 => .tup (l.plainU h1 fun _ _ z => nomatch z) (Lkd.datsU l h2) h3
  | _, _, .rot (.inl h1) h2 h3 => .rot (.inl (l.rdU h1 fun _ _ z => nomatch z)) (Lkd.datsU l h2) h3
  | _, _, .rot (.inr h1) h2 h3 => .rot (.inr h1) (Lkd.datsU l h2) h3
  | _, _, .rol (.inl h1) h2 => .rol (.inl (l.rdU h1 fun _ _ z => nomatch z)) h2
  | _, _, .rol (.inr h1) h2 => .rol (.inr h1) h2
  | _, _, .dic h1 h2 h3 h4 => .dic (l.rdU h1 fun _ _ z => nomatch z) h2 (Lkd.datsU l h3) h4
  | _, _, .dicT h1 h2 h3 h4 => .dicT (l.plainU h1 fun _ _ z => nomatch z) h2 (Lkd.datsU l h3) h4
theorem Lkd.datsU (l : Lkd p od kvs F G) : ∀ {vs : List V} {ds : List D}, Dats K G vs ds → Dats K F vs ds
  | _, _, .nil => .nil
  | _, _, .cons h1 h2 => .cons (Lkd.datU l h1) (Lkd.datsU l h2)
end
mutual
theorem Own.unlock {H HG : Hp} (l : Lkd p od kvs F G) : ∀ {k : Nat} {v : V} {d : D} {fp : List Addr}, Own K G HG k v d fp → (∀ a ∈ fp, a ≠ p ∧ H a = HG a) → Own K F H k v d fp
  | _, _, _, _, .frz h, _ => .frz (l.datU h)
  | _, _, _, _, .sc i h, _ => .sc i (l.datU h)
  | _, _, _, _, .lst h1 h2 h3 h4 h5, q => .lst ((q _ List.mem_cons_self).2.trans h1) ((l.same _ (q _ List.mem_cons_self).1).symm.trans h2) (Owns.unlock l h3 fun a h => q a (List.mem_cons_of_mem _ h)) h4 h5
  | _, _, _, _, .dic h1 h2 e h3 h4 h5, q => .dic ((q _ List.mem_cons_self).2.trans h1) ((l.same _ (q _ List.mem_cons_self).1).symm.trans h2) e (Owns.unlock l h3 fun a h => q a (List.mem_cons_of_mem _ h)) h4 h5
  | _, _, _, _, .dicT h1 h2 e h3 h4 h5, q => .dicT ((q _ List.mem_cons_self).2.trans h1) ((l.same _ (q _ List.mem_cons_self).1).symm.trans h2) e (Owns.unlock l h3 fun a h => q a (List.mem_cons_of_mem _ h)) h4 h5
theorem Owns.unlock {H HG : Hp} (l : Lkd p od kvs F G) : ∀ {k : Nat} {vs : List V} {ds : List D} {fp : List Addr}, Owns K G HG k vs ds fp → (∀ a ∈ fp, a ≠ p ∧ H a = HG a) → Owns K F H k vs ds fp
  | _, _, _, _, .nil, _ => .nil
  | _, _, _, _, .cons h1 h2 h3, q => .cons (Own.unlock l h1 fun a h => q a (List.mem_append_left _ h)) (Owns.unlock l h2 fun a h => q a (List.mem_append_right _ h)) h3
end
theorem Lkd.ex (l : Lkd p od kvs F G) {F2 G2 : Hp} (l2 : Lkd p od kvs F2 G2) (e : Ex F F2) : Ex G G2 := fun a o h => by
  by_cases z : a = p
  · subst z; rw [l.lock] at h; rw [l2.lock]; exact h
  · rw [l.same a z] at h; rw [l2.same a z]; exact e a o h
theorem Lkd.exU (l : Lkd p od kvs F G) {F2 G2 : Hp} (l2 : Lkd p od kvs F2 G2) (e : Ex G G2) : Ex F F2 := fun a o h => by
  by_cases z : a = p
  · subst z; rw [l.free] at h; rw [l2.free]; exact h
  · rw [← l.same a z] at h; rw [← l2.same a z]; exact e a o h
/-- e (or whatever W reads) gives d -/
def EvDW (K : PySem.W.Frag) (W : TE) (σ : L2.St) (F : Hp) (k : Nat) (d : D) : Prop :=
  ∀ F1 H, Ex F F1 → Ex F1 H → ∀ Q : VK, (∀ v F2 H2 fp, Stp F1 H F2 H2 → Own K F2 H2 k v d fp → (∀ a ∈ fp, H a = none) → Q v H2) → W σ H Q
/-- W may be read while a dict is locked -/
def Lockable (W : TE) : Prop := ∀ σ (H : Hp) (Q : VK) p kvs, H p = some (.dK kvs) → (∀ od, W σ (upd H p (.frz od (.dK kvs))) fun v H' => H' p = some (.frz od (.dK kvs)) ∧ Q v (upd H' p (.dK kvs))) → W σ H Q
theorem we_lock {X : Cx} {e : Expr} : Lockable (WE X e) := fun σ H Q p kvs h q => w_of (pe_lock pe_W) ⟨p, .dK kvs, h, True.intro, q⟩
/-- evaluation while the dict at p is locked -/
theorem ev_lock {W : TE} {σ : L2.St} {k : Nat} {d : D} (lk : Lockable W) (hp : F p = some (.dK kvs)) (h : ∀ od, EvDW K W σ (upd F p (.frz od (.dK kvs))) k d) : EvDW K W σ F k d := fun F1 H e1 e2 Q q => by
  have h1 : F1 p = some (.dK kvs) := e1 _ _ hp
  have h2 : H p = some (.dK kvs) := e2 _ _ h1
  refine lk σ H Q p kvs h2 fun od => ?_
  have l0 : Lkd p od kvs F (upd F p (.frz od (.dK kvs))) := .of hp
  have l1 : Lkd p od kvs F1 (upd F1 p (.frz od (.dK kvs))) := .of h1
  have l2 : Lkd p od kvs H (upd H p (.frz od (.dK kvs))) := .of h2
  refine h od _ _ (l0.ex l1 e1) (l1.ex l2 e2) _ fun v F2 H2 fp st o fr => ?_
  have f2 : F2 p = some (.frz od (.dK kvs)) := st.ff _ _ upd_same
  have g2 : H2 p = some (.frz od (.dK kvs)) := st.hh _ _ upd_same
  have m1 : Lkd p od kvs (upd F2 p (.dK kvs)) F2 := .un f2
  have m2 : Lkd p od kvs (upd H2 p (.dK kvs)) H2 := .un g2
  have nefp : ∀ a ∈ fp, a ≠ p := fun a ha z => by have := fr a ha; rw [z, upd_same] at this; cases this
  refine ⟨g2, q v (upd F2 p (.dK kvs)) _ fp ⟨l1.exU m1 st.ff, l2.exU m2 st.hh, m1.exU m2 st.fh, fun a ha => ?_⟩ (o.unlock m1 fun a ha => ⟨nefp a ha, upd_ne (nefp a ha)⟩) fun a ha => ?_⟩
  · by_cases z : a = p
    · subst z; exact .inl (by rw [h1]; exact fun z => nomatch z)
    · rw [upd_ne z] at ha
      rcases st.nw a ha with w | w
      · rw [upd_ne z] at w; exact .inl w
      · rw [upd_ne z] at w; exact .inr w
  · have := fr a ha
    rw [upd_ne (nefp a ha)] at this
    exact this
end
section
variable {X : Cx} {tg e : Expr} {σ : L2.St} {F : Hp} {p : Addr} {od : Obj} {kvs : List (Key × V)} {ds : List (Key × D)}
/-- the keys of a locked dict -/
theorem ei_keys (h : ∀ F1 H, Ex F F1 → Ex F1 H → ∀ Q : VK, Q (.ref p) H → WE X e σ H Q) (hp : F p = some (.frz od (.dK kvs))) (hk : kvs.map (·.1) = ds.map (·.1)) (hl : ds.length ≤ cap) : EvI X tg e σ F (ds.map fun kv => dOfKey kv.1) := fun F1 H e1 e2 R q => by
  have hp1 : F1 p = some (.frz od (.dK kvs)) := e1 _ _ hp
  have hlen : kvs.length = ds.length := by simpa using congrArg List.length hk
  refine wi_of (pi_keys pe_W) (h F1 H e1 e2 _ ⟨p, od, rfl, .inl ⟨kvs, e2 _ _ hp1, q _ F1 H (.refl e2) ⟨by rw [List.length_map]; exact hl, fun i H fh hi => ⟨fh _ _ hp1, ?_⟩, fun H fh => ⟨fh _ _ hp1, ?_⟩, fun i H x H' d F' ef fh hd hy => ?_⟩⟩⟩)
  · rw [List.length_map] at hi; omega
  · rw [List.length_map]; omega
  · obtain ⟨rfl, k, v, hkv, rfl⟩ := hy
    refine ⟨F', .refl fh, ?_⟩
    have dd : Dats X.K F' (kvs.map fun kv => kV kv.1) (ds.map fun kv => dOfKey kv.1) := keys_dats hk
    obtain ⟨u, hu, du⟩ := dd.get hd
    rw [List.getElem?_map, hkv] at hu
    cases hu
    exact du
end
end PV

set_option Elab.async false
set_option linter.all false
set_option maxRecDepth 100000
set_option maxHeartbeats 1000000
/-! PV, part J: {tuple: value}; stores. -/
namespace PV
open PySem PySem.Spec PyProof.Rows L2
section
variable {X : Cx} {kx vx : Expr} {tk tv : TE} {pos : Pos}
theorem pe_dpairT (hu : X.A.units + 64 < cLine) (hk : PE X kx tk) (hv : PE X vx tv) : PE X (.Dict [some kx] [vx] pos) (fun σ H Q => ∀ p, H p = none → tk σ (upd H p (.dT [])) fun x H1 => tv σ H1 fun y H2 =>
    H2 p = some (.dT []) ∧ ∃ ks b, x = .ref b ∧ H2 b = some (.tup (ks.map kV)) ∧ Q (.ref p) (upd H2 p (.dT [(ks, y)]))) := by
  refine ⟨fun pins s σ H Q I q => ?_⟩
  have hn := I.hok.fresh (Nat.le_refl s.heap.objs.size)
  have I1 := I.laid (a := s.heap.objs.size) (o := .dT []) (h' := s.heap.push { cls := .type "dict", data := .dict #[] }) (t' := s.toks) (fun _ _ q => Heap.get?_push_of_some _ q) (Nat.le_refl _) (dt_empty s.heap I.big)
  have hsh : (evalEachOpt [some kx] X.env).zip ((evalEach [vx] X.env).map fun v => (do let x ← v; standAt pos; pure x : Sem Value)) = ([(eval kx X.env, (do let x ← eval vx X.env; standAt pos; pure x : Sem Value))] : List (Sem Value × Sem Value)).map fun p => (some p.1, p.2) := by
    simp only [evalEachOpt, evalOpt, evalEach, List.map_cons, List.map_nil, List.zip_cons_cons, List.zip_nil_right]
  rw [arm_eval_Dict, hsh]
  rw [dictDisplay_pairs _ (by simp) (by simp)]
  refine wpAny_bind (wpAny_standAt (wpAny_bind (wpAny_subDictH (knd := tupleKind (mixKind X.prog X.w)) (show X.A.units < cLine by omega) (by simp) ?_)))
  refine evalPairs_cons (thn (hk.run pins _ σ _ _ I1 (q _ hn)) fun u s1 ⟨x, H1, I2, rx, q1⟩ => ?_)
  refine wpAny_bind (thn (hv.run pins s1 σ _ _ I2 q1) fun w s2 ⟨y, H2, I3, ry, hp, ks, b, ex, hb, q2⟩ => wpAny_bind (wpAny_standAt (wpAny_pure (evalPairs_nil ?_))))
  subst ex
  obtain rfl : u = Value.ref b := rx
  obtain ⟨z, hd, xs0, r0, dd⟩ := dt_of I3.hok hp
  cases r0
  refine ⟨[(ks, b, w)], ⟨rfl, rfl, key_of I3.hok hb, trivial⟩, dd, fun h' tk dd' hs => wpAny_pure ⟨.ref s.heap.objs.size, _, ?_, rfl, q2⟩⟩
  obtain ⟨o, es, ep, ho, h2, h3, h4, _, h5⟩ := dd'
  have hne : b ≠ s.heap.objs.size := ne_of hb hp (fun z => nomatch z)
  exact d_write I3 (by rw [hp]; exact True.intro) hs ⟨o, ho⟩ ⟨Nat.le_of_lt (small1000 (show 1 ≤ 1000 by decide)), hd, [(ks, b, w)], .cons ⟨rfl, by rw [upd_ne hne]; exact hb, ry⟩ .nil, o, es, ep, ho, h2, h3, h4, h5⟩
theorem ev_dpair {σ : L2.St} {F : Hp} {ks : List D} {k : List Key} {d : D} (hu : X.A.units + 64 < cLine) (hk : EvZ X kx σ F (.tup ks)) (hv : EvZ X vx σ F d) (h : keysOf ks = some k) : EvD X (.Dict [some kx] [vx] pos) σ F 1 (.dicT [(k, d)]) :=
  fun F1 H e1 e2 Q q => w_of (pe_dpairT hu pe_W pe_W) fun p hp => ev2 hk hv e1 (e2.trans (.new hp)) fun v u F2 H2 st d1 d2 => by
    have hpd : H2 p = some (.dT []) := st.hh _ _ upd_same
    have lp : F2 p = none := st.lse (e2.free hp) (by rw [upd_same]; exact fun z => nomatch z)
    cases d1 with
    | tup h1 h2 h3 =>
      have ek := keys_dat h2 h
      subst ek
      refine ⟨hpd, k, _, rfl, st.fh _ _ h1, q _ F2 _ [p] ⟨st.ff, fun a o e => ?_, fun a o e => ?_, fun a ha => ?_⟩ (.dicT upd_same lp rfl (owns_zero (.one d2)) (by simp) (show 1 ≤ cap by decide)) fun a ha => ?_⟩
      · have ne : a ≠ p := ne_of_none e hp
        rw [upd_ne ne]; exact st.hh _ _ (by rw [upd_ne ne]; exact e)
      · have ne : a ≠ p := ne_of_none e lp
        rw [upd_ne ne]; exact st.fh _ _ e
      · rcases st.nw a ha with z | z
        · exact .inl z
        · by_cases ne : a = p
          · subst ne; exact absurd lp ha
          · rw [upd_ne ne] at z; exact .inr z
      · have e : a = p := by simpa using ha
        rw [e]; exact hp
end
end PV

set_option Elab.async false
set_option linter.all false
set_option maxRecDepth 100000
set_option maxHeartbeats 1000000
/-! PV, part K: from the model's expressions to ours. -/
namespace PV
open PySem PySem.Spec PyProof.Rows L2

def slotOf : List Str → Str → Option Nat
  | [], _ => none
  | y :: r, x => if y = x then some 0 else (slotOf r x).map (· + 1)
theorem slotOf_get : ∀ {N : List Str} {x : Str} {i : Nat}, slotOf N x = some i → N[i]? = some x
  | [], _, _, h => by cases h
  | y :: r, x, i, h => by
    unfold slotOf at h
    split at h
    · rename_i e; cases h; rw [e]; rfl
    · obtain ⟨j, hj, rfl⟩ := Option.map_eq_some_iff.mp h
      rw [List.getElem?_cons_succ]; exact slotOf_get hj
def okName (x : Str) : Bool := !(x == ("__debug__" : Str)) && !(x == ("__classdict__" : Str)) && !(x == ("__name__" : Str))
def visB (sc : Scope) (x : Str) : Bool := match sc.names.lookup x with
  | some .local => true | some .cell => true | some .free => true | _ => false
def globB (sc : Scope) (x : Str) : Bool := match sc.names.lookup x with
  | some .globalImplicit => true | _ => false
def locB (sc : Scope) (x : Str) : Bool := match sc.names.lookup x with
  | some .local => true | some .cell => true | _ => false
theorem vis_of {sc : Scope} {x : Str} (h : visB sc x = true) : Vis sc x := by
  unfold visB at h
  split at h
  · exact .inl (by assumption)
  · exact .inr (.inl (by assumption))
  · exact .inr (.inr (by assumption))
  · cases h
/-- the names of a block: N the slots, sc the scope that runs, ws the written one -/
structure Blk where
  N : List Str
  sc : Scope
  ws : Scope
def cmpOf : CmpOp → Option Cop
  | .Eq => some .eq | .NotEq => some .ne | .Lt => some .lt | .LtE => some .le | .Gt => some .gt | .GtE => some .ge | .In => some .isin | .NotIn => some .notin | .Is => some .is_ | .IsNot => some .isnot
theorem cmpOf_eq {o : CmpOp} {c : Cop} (h : cmpOf o = some c) : o = copOf c := by
  cases o <;> (cases h; rfl)
def bopOf : Operator → Option Bop
  | .Add => some .add | .Sub => some .sub | .Mult => some .mul | .FloorDiv => some .fdiv | .Mod => some .mod | .Pow => some .pow
  | _ => none
theorem bopOf_eq {o : Operator} {c : Bop} (h : bopOf o = some c) : o = opOf c := by
  cases o <;> first | (cases h; rfl) | cases h
def bltNames : List Str := ["len", "all", "any", "list", "tuple", "set", "isinstance", "range", "enumerate", "zip", "int", "bool", "str", "dict", "sorted", "min", "max", "sum"]
def isSetCall : Expr → Option Expr
  | .Call (.Name g _) [a] [] _ => if g = "set" then some a else none
  | _ => none
/-- a base of an attribute that is no call of super -/
def baseB : Expr → Bool
  | .Call .. => false
  | _ => true
def isValues : Expr → Option Expr
  | .Call (.Attribute o m apos) [] [] cpos => if m = "values" ∧ apos.endLine == cpos.line ∧ baseB o = true then some o else none
  | _ => none
def tyOf (T : Str) : Option Bf :=
  if T = "int" then some .isint else if T = "bool" then some .isbool else if T = "list" then some .islist else if T = "tuple" then some .istuple else if T = "str" then some .isstr else none
def nameOfE : Expr → Option Str
  | .Name x _ => some x
  | _ => none
def kwNames : List Keyword → Option (List Str)
  | [] => some []
  | k :: r => match k.arg, kwNames r with
    | some n, some ns => some (n :: ns)
    | _, _ => none
def trTgs (B : Blk) : List Expr → Option (List Nat)
  | [] => some []
  | .Name x _ :: r => if locB B.ws x = true then match slotOf B.N x, trTgs B r with
      | some i, some is => some (i :: is)
      | _, _ => none
    else none
  | _ :: _ => none
def trTg (B : Blk) : Expr → Option Tg
  | .Name x _ => if locB B.ws x = true then (slotOf B.N x).map .one else none
  | .Tuple es _ _ => (trTgs B es).map .many
  | _ => none
def ownOf (N : List Str) (scope : Scope) : List (Str × Nat) := scope.names.filterMap fun y => match y.2 with
  | .local => (slotOf N y.1).map fun i => (y.1, i)
  | .cell => (slotOf N y.1).map fun i => (y.1, i)
  | _ => none
def inner (B : Blk) (scope : Scope) : Blk := ⟨B.N, relS scope B.sc, scope⟩
def isTupE : Expr → Bool
  | .Tuple .. => true
  | _ => false

section
/-- what stands in a walk's or an argument's place -/
def trIter (rec : Expr → Option Exp) (B : Blk) (tg : Expr) (e : Expr) : Option Exp := match e with
  | .Call (.Name f p) args kws pos =>
    if globB B.sc f = true ∧ okName f = true ∧ f = "range" then match args, kws with
      | [a], [] => (rec a).map .rng
      | _, _ => none
    else if globB B.sc f = true ∧ okName f = true ∧ f = "enumerate" ∧ isTupE tg = true then match args, kws with
      | [a], [] => (rec a).map .enm
      | _, _ => none
    else if globB B.sc f = true ∧ okName f = true ∧ f = "zip" ∧ isTupE tg = true then match args, kws with
      | [a, b], [] => match rec a, rec b with
        | some x, some y => some (.zp x y)
        | _, _ => none
      | _, _ => none
    else (rec (.Call (.Name f p) args kws pos)).map .itn
  | .Name y p => (rec (.Name y p)).map .itr
  | e => (rec e).map .itn
def trIfs (rec : Expr → Option Exp) : List Expr → Option Exp
  | [] => some .yes
  | [c] => rec c
  | _ => none
def trPart (rec : Expr → Option Exp) : Option Expr → Option Exp
  | none => some .nil
  | some e => (rec e).map .itr
def trList (rec : Expr → Option Exp) : List Expr → Option Exp
  | [] => some .nil
  | e :: r => match rec e, trList rec r with
    | some x, some y => some (.cons x y)
    | _, _ => none
def trKws (rec : Expr → Option Exp) : List Keyword → Option Exp
  | [] => some .nil
  | k :: r => match rec k.value, trKws rec r with
    | some x, some y => some (.cons x y)
    | _, _ => none
def trBool (rec : Expr → Option Exp) (mk : Exp → Exp → Exp) : List Expr → Option Exp
  | [] => none
  | [a] => rec a
  | a :: b :: r => match rec a, trBool rec mk (b :: r) with
    | some x, some y => some (mk x y)
    | _, _ => none
def trCall (rec : Expr → Option Exp) (B : Blk) (f : Str) (args : List Expr) (kws : List Keyword) : Option Exp :=
  if globB B.sc f = true ∧ okName f = true then
    if f ∈ bltNames then match args, kws with
      | [a], [] =>
        if f = "len" then match isSetCall a with
          | some b => if globB B.sc "set" = true then (rec b).map (.blt .lenset) else none
          | none => (rec a).map (.blt .len)
        else if f = "list" then match isValues a with
          | some o => (rec o).map (.blt .listvals)
          | none => (rec a).map (.blt .list)
        else if f = "all" then (rec a).map (.blt .all)
        else if f = "any" then (rec a).map (.blt .any)
        else if f = "tuple" then (rec a).map (.blt .tuple)
        else none
      | [a, b], [] => if f = "isinstance" then match nameOfE b with
          | some T => if globB B.sc T = true ∧ okName T = true then match tyOf T, rec a with
              | some t, some x => some (.blt t x)
              | _, _ => none
            else none
          | none => none
        else none
      | _, _ => none
    else match trList rec args, kwNames kws, trKws rec kws with
      | some as, some ks, some ws => some (.call f as ks ws)
      | _, _, _ => none
  else none
def tr : Nat → Blk → Expr → Option Exp
  | 0, _, _ => none
  | n + 1, B, e => match e with
    | .Name x _ => if okName x = true then
        if visB B.sc x = true then (slotOf B.N x).map .var
        else if globB B.sc x = true then some (.glob x) else none
      else none
    | .Constant c _ _ => match c with
      | .none => some .non
      | .bool b => some (.bl b)
      | .int i => some (.int i)
      | .str x => some (.str x)
      | _ => none
    | .BinOp a op b _ => match bopOf op, tr n B a, tr n B b with
      | some o, some x, some y => some (.bin o x y)
      | _, _, _ => none
    | .UnaryOp op a _ => match op with
      | .USub => (tr n B a).map .neg
      | .Not => (tr n B a).map .nt
      | _ => none
    | .BoolOp op vs _ => match op with
      | .And => trBool (tr n B) .and_ vs
      | .Or => trBool (tr n B) .or_ vs
    | .Compare a ops cs _ => match ops, cs with
      | [op], [b] => match cmpOf op, tr n B a, tr n B b with
        | some o, some x, some y => some (.cmp o x y)
        | _, _, _ => none
      | [op, op'], [b, c] => match cmpOf op, cmpOf op', tr n B a, tr n B b, tr n B c with
        | some o, some o', some x, some y, some z => some (.chain o o' x y z)
        | _, _, _, _, _ => none
      | _, _ => none
    | .IfExp t a b _ => match tr n B t, tr n B a, tr n B b with
      | some x, some y, some z => some (.ife x y z)
      | _, _, _ => none
    | .Call f args kws cpos => match f with
      | .Name f _ => trCall (tr n B) B f args kws
      | .Attribute o m apos => match args, kws with
        | [b], [] => if m = "index" ∧ baseB o = true ∧ apos.endLine == cpos.line then match tr n B o, tr n B b with
            | some x, some y => some (.index x y)
            | _, _ => none
          else none
        | _, _ => none
      | _ => none
    | .Subscript a b _ => match b with
      | .Slice lo hi st _ => match st with
        | none => match tr n B a, trPart (tr n B) lo, trPart (tr n B) hi with
          | some x, some y, some z => some (.slc x y z)
          | _, _, _ => none
        | some _ => none
      | b => match tr n B a, tr n B b with
        | some x, some y => some (.idx x y)
        | _, _ => none
    | .List es _ => (trList (tr n B) es).map .lst
    | .Tuple es _ _ => (trList (tr n B) es).map .tup
    | .Dict ks vs _ => match ks, vs with
      | [], [] => some .dnew
      | [some k], [v] => match tr n B k, tr n B v with
        | some x, some y => some (.dpair x y)
        | _, _ => none
      | _, _ => none
    | .ListComp elt gs scope _ => match gs with
      | [⟨tg, iter, ifs, as⟩] => if as = 0 ∧ blkC B.N B.sc scope (ownOf B.N scope) = true then
          match trTg (inner B scope) tg, trIter (tr n B) B tg iter, trIfs (tr n (inner B scope)) ifs, tr n (inner B scope) elt with
          | some t, some i, some c, some x => if (tgIdx t).all (fun i => decide (i ∈ (ownOf B.N scope).map (·.2))) = true then some (.lc ((ownOf B.N scope).map (·.2)) t i c x) else none
          | _, _, _, _ => none
        else none
      | _ => none
    | .DictComp kx vx gs scope _ => match gs with
      | [⟨tg, iter, ifs, as⟩] => if as = 0 ∧ blkC B.N B.sc scope (ownOf B.N scope) = true then
          match trTg (inner B scope) tg, trIter (tr n B) B tg iter, trIfs (tr n (inner B scope)) ifs, tr n (inner B scope) kx, tr n (inner B scope) vx with
          | some t, some i, some c, some x, some y => if (tgIdx t).all (fun i => decide (i ∈ (ownOf B.N scope).map (·.2))) = true then some (.dc ((ownOf B.N scope).map (·.2)) t i c x y) else none
          | _, _, _, _, _ => none
        else none
      | _ => none
    | _ => none
end
end PV

set_option Elab.async false
set_option linter.all false
set_option maxRecDepth 100000
set_option maxHeartbeats 2000000
/-! PV, part L: expressions are sound. -/
namespace PV
open PySem PySem.Spec PyProof.Rows L2

structure XOk (X : Cx) (B : Blk) (lvl : Nat) : Prop where
  N_ : X.N = B.N
  nd : B.N.Nodup
  sc_ : X.env.scope = B.sc
  calm : X.calm = true
  room : Room lvl X.A
  asg : ∀ x, locB B.ws x = true → Loc B.sc x ∧ (X.fn x = true ∨ B.sc.names.lookup x = some .local)
structure G5 where
  P : Program
  w : World
  K : PySem.W.Frag
  mg : Str → Option Value
  base : Heap
structure On (g : G5) (X : Cx) : Prop where
  p : X.prog = g.P
  w : X.w = g.w
  k : X.K = g.K
  m : X.mg = g.mg
  b : X.base = g.base
def WK (X : Cx) (kws : List Keyword) : TA := fun σ H Q => ∀ pos pins s, Inv X pins σ H s → wpAny (model X.prog X.w) X.A (evalAll ((backToKw pos (keywordEach kws X.env)).map (·.2))) (AP X pins σ Q) X.xe s
theorem pk_W {X : Cx} {kws : List Keyword} : PK X kws (WK X kws) := ⟨fun pos pins s _ _ _ I h => h pos pins s I⟩
theorem wk_of {X : Cx} {kws : List Keyword} {t : TA} (h : PK X kws t) {σ : L2.St} {H : Hp} {Q : List V → Hp → Prop} (q : t σ H Q) : WK X kws σ H Q := fun pos pins s I => h.run pos pins s σ H Q I q
def EvK (X : Cx) (kws : List Keyword) (σ : L2.St) (F : Hp) (ds : List D) : Prop :=
  ∀ F1 H, Ex F F1 → Ex F1 H → ∀ Q : List V → Hp → Prop, (∀ vs F2 H2, Stp F1 H F2 H2 → Dats X.K F2 vs ds → Q vs H2) → WK X kws σ H Q
theorem ek_nil {X : Cx} {σ : L2.St} {F : Hp} : EvK X [] σ F [] := fun F1 H e1 e2 Q q => wk_of pk_nil (show Q [] H from q [] F1 H (.refl e2) .nil)
theorem ek_cons {X : Cx} {σ : L2.St} {F : Hp} {nm : Option Str} {e : Expr} {kpos : Pos} {kws : List Keyword} {d : D} {ds : List D} (ha : EvZ X e σ F d) (hr : EvK X kws σ F ds) : EvK X (⟨nm, e, kpos⟩ :: kws) σ F (d :: ds) :=
  fun F1 H e1 e2 Q q => wk_of (pk_cons pe_W pk_W) (ha F1 H e1 e2 _ fun v F2 H2 st d1 => hr F2 H2 (e1.trans st.ff) st.fh _ fun vs F3 H3 s2 d2 => q (v :: vs) F3 H3 (st.trans s2) (.cons (d1.mono s2.ff) d2))
/-- the defs are as C tells -/
def CallS (g : G5) (lvl : Nat) (C : Str → List D → List Str → List D → Option (Nat × D)) : Prop :=
  ∀ X, On g X → X.calm = true → Room lvl X.A → ∀ (f : Str) (args : List Expr) (kws : List Keyword) (ks : List Str) (p pos : Pos) (σ : L2.St) (F : Hp) (ds es : List D) (k : Nat) (d : D), Gl X f → okName f = true → (∀ e ∈ args, Pl X e) → args.length = ds.length → kwNames kws = some ks →
    EvA X args σ F ds → EvK X kws σ F es → C f ds ks es = some (k, d) → EvD X (.Call (.Name f p) args kws pos) σ F k d
def GloS (g : G5) (G : Str → Option D) : Prop := ∀ x d, G x = some d → ∃ v u, g.mg x = some u ∧ RelV v u ∧ ∀ F, Dat g.K F v d
def BltS (g : G5) : Prop := ∀ x ∈ bltNames, g.mg x = none
section
variable {X : Cx} {e : Expr} {σ : L2.St} {F : Hp} {k : Nat} {b : Bool} {d : D}
theorem EvZ.bl (h : EvZ X e σ F (.bl b)) : EvD X e σ F k (.bl b) := fun F1 H e1 e2 Q q => h F1 H e1 e2 Q fun v F2 H2 st d1 => q v F2 H2 [] st (.sc rfl d1) (by simp)
theorem et_ife {c a b : Expr} {pos : Pos} {t u : Bool} (hc : EvT X c σ F t) (ht : t = true → EvT X a σ F u) (hf : t = false → EvT X b σ F u) : EvT X (.IfExp c a b pos) σ F u := fun F1 H e1 e2 Q q => by
  intro pins s I
  show wpAny _ _ (do if ← isTrue c X.env (eval c X.env) then isTrue a X.env (eval a X.env) else isTrue b X.env (eval b X.env)) _ _ s
  refine wpAny_bind (thn (hc F1 H e1 e2 (fun b' H' => b' = t ∧ ∃ F2, Stp F1 H F2 H') (fun F2 H2 st => ⟨rfl, F2, st⟩) pins s I) fun b' s1 ⟨H1, I1, eb, F2, st⟩ => ?_)
  subst eb
  cases b' with
  | true =>
    rw [if_pos rfl]
    exact ht rfl F2 H1 (e1.trans st.ff) st.fh Q (fun F3 H3 s2 => q F3 H3 (st.trans s2)) pins s1 I1
  | false =>
    rw [if_neg Bool.false_ne_true]
    exact hf rfl F2 H1 (e1.trans st.ff) st.fh Q (fun F3 H3 s2 => q F3 H3 (st.trans s2)) pins s1 I1
end
/-! ### facts of the text -/
section
variable {n : Nat} {B : Blk} {e : Expr} {E : Exp}
theorem tr_pl (h : tr n B e = some E) (X : Cx) : Pl X e := by
  cases n with
  | zero => cases h
  | succ n => cases e <;> first | (intro es; rfl) | cases h
theorem tr_marks (h : tr n B e = some E) (o : CmpOp) : behindInMarks o e = false := by
  cases n with
  | zero => cases h
  | succ n => cases e <;> first | rfl | cases h
theorem tr_ix (h : tr n B e = some E) : PlainIx e := by
  cases n with
  | zero => cases h
  | succ n => cases e <;> first | (intro _ _; rfl) | cases h
theorem base_of (h : baseB e = true) (m : Str) (env : Env) (w : Sem Value) : attributeBase e m env w = w := by
  cases e <;> first | rfl | cases h
theorem tr_fold (h : tr n B e = some E) (env : Env) (x : Value) : foldedSetIterable e env x = pure x := by
  cases n with
  | zero => cases h
  | succ n => cases e <;> first | rfl | cases h
end
theorem ok_dbg {x : Str} (h : okName x = true) : (x == ("__debug__" : Str)) = false ∧ (x == ("__classdict__" : Str)) = false ∧ x ≠ "__name__" := by
  unfold okName at h
  simp only [Bool.and_eq_true, Bool.not_eq_true'] at h
  exact ⟨h.1.1, h.1.2, fun e => by rw [e] at h; simp at h⟩
theorem gl_of {X : Cx} {B : Blk} {lvl : Nat} (x : XOk X B lvl) {f : Str} (h : globB B.sc f = true) : Gl X f := by
  show X.env.scope.names.lookup f = some .globalImplicit
  rw [x.sc_]
  unfold globB at h
  split at h
  · assumption
  · cases h
theorem blk_loc {sc scope : Scope} {x : Str} (h : locB scope x = true) : Loc (relS scope sc) x ∧ ((scope.names.lookup x == some .cell) = true ∨ (relS scope sc).names.lookup x = some .local) := by
  unfold locB at h
  split at h
  · rename_i hl
    have := lookup_relS_keep (sc := sc) (k := .local) (by decide) hl
    exact ⟨.inl this, .inr this⟩
  · rename_i hl
    have := lookup_relS_keep (sc := sc) (k := .cell) (by decide) hl
    exact ⟨.inr this, .inl (by rw [hl]; rfl)⟩
  · cases h
theorem XOk.blk {X : Cx} {B : Blk} {lvl : Nat} (x : XOk X B lvl) (s : Shared) (H : Hp) (scope : Scope) (C : Addr) (cl : List (Str × Addr)) (fp : List Addr) : XOk (X.blk s H scope (compEnvC scope cl C X.env) fp) (inner B scope) lvl where
  N_ := x.N_
  nd := x.nd
  sc_ := by
    show relabel scope X.env = relS scope B.sc
    rw [← x.sc_]; rfl
  calm := x.calm
  room := x.room
  asg := fun y hy => blk_loc hy
theorem On.blk {g : G5} {X : Cx} (o : On g X) (s : Shared) (H : Hp) (scope : Scope) (ce : Env) (fp : List Addr) : On g (X.blk s H scope ce fp) := ⟨o.p, o.w, o.k, o.m, o.b⟩
theorem pgs_of {X : Cx} {B : Blk} {lvl : Nat} (x : XOk X B lvl) (K : PySem.W.Frag) : ∀ {es : List Expr} {is : List Nat}, trTgs B es = some is → PGs X es (gMany K is) ∧ (assignEach es X.env).length = is.length ∧ (assignEach es X.env).findIdx? (·.1) = none
  | [], is, h => by cases h; exact ⟨pgs_nil, rfl, rfl⟩
  | e :: r, is, h => by
    cases e <;> try (cases (show (none : Option (List Nat)) = some is from h))
    rename_i y pos
    unfold trTgs at h
    split at h
    · rename_i hl
      split at h
      · rename_i i is' hi hr
        cases h
        obtain ⟨p1, p2, p3⟩ := pgs_of x K hr
        obtain ⟨l1, l2⟩ := x.asg y hl
        refine ⟨pgs_cons (pg_name (by rw [x.N_]; exact x.nd) (by rw [x.N_]; exact slotOf_get hi) (by rw [x.sc_]; exact l1) (by rw [x.sc_]; exact l2)) p1 rfl, ?_, ?_⟩
        · show (assignEach r X.env).length + 1 = _
          rw [p2]; rfl
        · show List.findIdx? (·.1) ((false, assign (.Name y pos) X.env) :: assignEach r X.env) = none
          rw [List.findIdx?_cons]
          simp [p3]
      · cases h
    · cases h
theorem pg_of {X : Cx} {B : Blk} {lvl : Nat} (x : XOk X B lvl) {e : Expr} {t : Tg} (h : trTg B e = some t) : PG X e (gOf X.K t) := by
  cases e <;> try (cases (show (none : Option Tg) = some t from h))
  · rename_i y pos
    replace h := (show (if locB B.ws y = true then (slotOf B.N y).map .one else none) = some t from h)
    split at h
    · rename_i hl
      obtain ⟨i, hi, rfl⟩ := Option.map_eq_some_iff.mp h
      obtain ⟨l1, l2⟩ := x.asg y hl
      exact pg_name (by rw [x.N_]; exact x.nd) (by rw [x.N_]; exact slotOf_get hi) (by rw [x.sc_]; exact l1) (by rw [x.sc_]; exact l2)
    · cases h
  · rename_i es kk pos
    obtain ⟨is, hi, rfl⟩ := Option.map_eq_some_iff.mp (show (trTgs B es).map .many = some t from h)
    obtain ⟨p1, p2, p3⟩ := pgs_of x X.K hi
    exact pg_tup x.calm p1 p2 p3

/-! ### the theorem -/
section
variable {g : G5} {lvl : Nat} {C : Str → List D → List Str → List D → Option (Nat × D)} {G : Str → Option D}
def Snd (g : G5) (lvl : Nat) (C : Str → List D → List Str → List D → Option (Nat × D)) (G : Str → Option D) (n : Nat) : Prop :=
  ∀ B e E, tr n B e = some E → ∀ X, On g X → XOk X B lvl → ∀ σ F ρ, SlotR X.K F σ ρ → ∀ k d, ev C G E ρ = some (k, d) → EvD X e σ F k d ∧ ∀ b, d = .bl b → EvT X e σ F b
/-- where isTrue is plain -/
theorem snd_val {X : Cx} {e : Expr} {σ : L2.St} {F : Hp} {k : Nat} {d : D} (h : EvD X e σ F k d) (he : ∀ whole, isTrue e X.env whole = (do let v ← whole; standAt e.pos; holding [v] (truthy v))) : EvD X e σ F k d ∧ ∀ b, d = .bl b → EvT X e σ F b :=
  ⟨h, fun b e => by subst e; exact .val h.z he⟩
variable {n : Nat} {B : Blk} {X : Cx} {σ : L2.St} {F : Hp} {ρ : Ro}
theorem snd_list (S : Snd g lvl C G n) (o : On g X) (x : XOk X B lvl) (hs : SlotR X.K F σ ρ) : ∀ {es : List Expr} {E : Exp} {ds : List D}, trList (tr n B) es = some E → evs C G E ρ = some ds → EvA X es σ F ds
  | [], E, ds, h, q => by
    cases h
    simp only [evs, Option.some.injEq] at q
    subst q
    exact ea_nil
  | e :: r, E, ds, h, q => by
    unfold trList at h
    split at h
    · rename_i a b ha hb
      cases h
      simp only [evs] at q
      split at q
      · rename_i k d ds' hd hds
        cases q
        exact ea_cons (S B e a ha X o x σ F ρ hs k d hd).1.z (snd_list S o x hs hb hds) (tr_pl ha X r)
      · cases q
    · cases h
theorem snd_kws (S : Snd g lvl C G n) (o : On g X) (x : XOk X B lvl) (hs : SlotR X.K F σ ρ) : ∀ {es : List Keyword} {E : Exp} {ds : List D}, trKws (tr n B) es = some E → evs C G E ρ = some ds → EvK X es σ F ds
  | [], E, ds, h, q => by
    cases h
    simp only [evs, Option.some.injEq] at q
    subst q
    exact ek_nil
  | ⟨nm, e, kp⟩ :: r, E, ds, h, q => by
    unfold trKws at h
    split at h
    · rename_i a b ha hb
      cases h
      simp only [evs] at q
      split at q
      · rename_i k d ds' hd hds
        cases q
        exact ek_cons (S B e a ha X o x σ F ρ hs k d hd).1.z (snd_kws S o x hs hb hds)
      · cases q
    · cases h
theorem list_len : ∀ {es : List Expr} {E : Exp} {ds : List D}, trList (tr n B) es = some E → evs C G E ρ = some ds → es.length = ds.length
  | [], E, ds, h, q => by
    cases h
    simp only [evs, Option.some.injEq] at q
    subst q
    rfl
  | e :: r, E, ds, h, q => by
    unfold trList at h
    split at h
    · rename_i a b ha hb
      cases h
      simp only [evs] at q
      split at q
      · rename_i k d ds' hd hds
        cases q
        rw [List.length_cons, List.length_cons, list_len hb hds]
      · cases q
    · cases h
theorem list_pl : ∀ {es : List Expr} {E : Exp}, trList (tr n B) es = some E → ∀ e ∈ es, Pl X e
  | [], _, _, e, h => by cases h
  | a :: r, E, h, e, he => by
    unfold trList at h
    split at h
    · rename_i a' b ha hb
      rcases List.mem_cons.mp he with rfl | he
      · exact tr_pl ha X
      · exact list_pl hb e he
    · cases h
theorem snd_and (S : Snd g lvl C G n) (o : On g X) (x : XOk X B lvl) (hs : SlotR X.K F σ ρ) (pos : Pos) : ∀ {es : List Expr} {E : Exp} {k : Nat} {d : D}, trBool (tr n B) .and_ es = some E → ev C G E ρ = some (k, d) → ∀ b, d = .bl b →
    EvZ X (.BoolOp .And es pos) σ F (.bl b) ∧ EvW X (.BoolOp .And es pos) σ F b
  | [], E, k, d, h, q, b, eb => by cases h
  | [a], E, k, d, h, q, b, eb => by
    subst eb
    obtain ⟨h1, h2⟩ := S B a E h X o x σ F ρ hs k _ q
    exact ⟨(ev_one h1.z).z, ew_and1 (h2 b rfl)⟩
  | a :: c :: r, E, k, d, h, q, b, eb => by
    subst eb
    unfold trBool at h
    split at h
    · rename_i u w hu hw
      cases h
      simp only [ev] at q
      split at q
      · rename_i k1 hq1
        obtain ⟨h1, h2⟩ := S B a u hu X o x σ F ρ hs _ _ hq1
        split at q
        · rename_i k2 c2 hq2
          cases q
          obtain ⟨g1, g2⟩ := snd_and S o x hs pos hw hq2 _ rfl
          exact ⟨(ev_and h1.z (fun _ => g1) (fun z => nomatch z)).z, ew_and (h2 true rfl) (fun _ => g2) (fun z => nomatch z)⟩
        · cases q
      · rename_i k1 hq1
        cases q
        obtain ⟨h1, h2⟩ := S B a u hu X o x σ F ρ hs _ _ hq1
        exact ⟨(ev_and h1.z (fun z => nomatch z) (fun _ => rfl)).z, ew_and (h2 false rfl) (fun z => nomatch z) (fun _ => rfl)⟩
      · cases q
    · cases h
theorem snd_or (S : Snd g lvl C G n) (o : On g X) (x : XOk X B lvl) (hs : SlotR X.K F σ ρ) (pos : Pos) : ∀ {es : List Expr} {E : Exp} {k : Nat} {d : D}, trBool (tr n B) .or_ es = some E → ev C G E ρ = some (k, d) → ∀ b, d = .bl b →
    EvZ X (.BoolOp .Or es pos) σ F (.bl b) ∧ EvW X (.BoolOp .Or es pos) σ F b
  | [], E, k, d, h, q, b, eb => by cases h
  | [a], E, k, d, h, q, b, eb => by
    subst eb
    obtain ⟨h1, h2⟩ := S B a E h X o x σ F ρ hs k _ q
    exact ⟨(ev_one h1.z).z, ew_or1 (h2 b rfl)⟩
  | a :: c :: r, E, k, d, h, q, b, eb => by
    subst eb
    unfold trBool at h
    split at h
    · rename_i u w hu hw
      cases h
      simp only [ev] at q
      split at q
      · rename_i k1 hq1
        obtain ⟨h1, h2⟩ := S B a u hu X o x σ F ρ hs _ _ hq1
        split at q
        · rename_i k2 c2 hq2
          cases q
          obtain ⟨g1, g2⟩ := snd_or S o x hs pos hw hq2 _ rfl
          exact ⟨(ev_or h1.z (fun _ => g1) (fun z => nomatch z)).z, ew_or (h2 false rfl) (fun _ => g2) (fun z => nomatch z)⟩
        · cases q
      · rename_i k1 hq1
        cases q
        obtain ⟨h1, h2⟩ := S B a u hu X o x σ F ρ hs _ _ hq1
        exact ⟨(ev_or h1.z (fun z => nomatch z) (fun _ => rfl)).z, ew_or (h2 true rfl) (fun z => nomatch z) (fun _ => rfl)⟩
      · cases q
    · cases h
/-- a BoolOp gives a bool -/
theorem and_bool : ∀ {es : List Expr} {E : Exp} {k : Nat} {d : D}, 2 ≤ es.length → trBool (tr n B) .and_ es = some E → ev C G E ρ = some (k, d) → k = 0 ∧ ∃ b, d = .bl b
  | [], _, _, _, hl, _, _ => by simp at hl
  | [_], _, _, _, hl, _, _ => by simp at hl
  | a :: c :: r, E, k, d, _, h, q => by
    unfold trBool at h
    split at h
    · cases h
      simp only [ev] at q
      split at q
      · split at q
        · cases q; exact ⟨rfl, _, rfl⟩
        · cases q
      · cases q; exact ⟨rfl, _, rfl⟩
      · cases q
    · cases h
theorem or_bool : ∀ {es : List Expr} {E : Exp} {k : Nat} {d : D}, 2 ≤ es.length → trBool (tr n B) .or_ es = some E → ev C G E ρ = some (k, d) → k = 0 ∧ ∃ b, d = .bl b
  | [], _, _, _, hl, _, _ => by simp at hl
  | [_], _, _, _, hl, _, _ => by simp at hl
  | a :: c :: r, E, k, d, _, h, q => by
    unfold trBool at h
    split at h
    · cases h
      simp only [ev] at q
      split at q
      · split at q
        · cases q; exact ⟨rfl, _, rfl⟩
        · cases q
      · cases q; exact ⟨rfl, _, rfl⟩
      · cases q
    · cases h
theorem snd_part (S : Snd g lvl C G n) (o : On g X) (x : XOk X B lvl) (hs : SlotR X.K F σ ρ) {e : Option Expr} {E : Exp} {i : Option Int} (h : trPart (tr n B) e = some E) (q : evO C G E ρ = some i) :
    ∃ t : TO, PO X e t ∧ ∀ F1 H, Ex F F1 → Ex F1 H → ∀ Q : Option Int → Hp → Prop, (∀ F2 H2, Stp F1 H F2 H2 → Q i H2) → t σ H Q := by
  cases e with
  | none =>
    cases h
    simp only [evO, Option.some.injEq] at q
    subst q
    exact ⟨_, po_none, fun F1 H e1 e2 Q q => q F1 H (.refl e2)⟩
  | some e =>
    obtain ⟨a, ha, rfl⟩ := Option.map_eq_some_iff.mp (show (tr n B e).map .itr = some E from h)
    simp only [evO] at q
    split at q
    · rename_i k j hj
      cases q
      have := (S B e a ha X o x σ F ρ hs k _ hj).1.z
      refine ⟨_, po_some pe_W, fun F1 H e1 e2 Q q => this F1 H e1 e2 _ fun v F2 H2 st d1 => ?_⟩
      cases d1
      exact ⟨j, rfl, q F2 H2 st⟩
    · cases q
end
end PV

set_option Elab.async false
set_option linter.all false
set_option maxRecDepth 100000
set_option maxHeartbeats 4000000
/-! PV, part M: expressions are sound, the theorem. -/
namespace PV
open PySem PySem.Spec PyProof.Rows L2
section
variable {g : G5} {lvl : Nat} {C : Str → List D → List Str → List D → Option (Nat × D)} {G : Str → Option D}
variable {n : Nat} {B : Blk} {X : Cx} {σ : L2.St} {F : Hp} {ρ : Ro}

/-- a walk over a dict -/
def isDicE (C : Str → List D → List Str → List D → Option (Nat × D)) (G : Str → Option D) (E : Exp) (ρ : Ro) : Bool := match E with
  | .itr e => match ev C G e ρ with
    | some (_, .dic _) => true
    | _ => false
  | _ => false
theorem blt_none (hb : BltS g) (o : On g X) {f : Str} (h : f ∈ bltNames) : X.mg f = none := by rw [o.m]; exact hb f h
theorem snd_plainIter (S : Snd g lvl C G n) (o : On g X) (x : XOk X B lvl) (hs : SlotR X.K F σ ρ) {tg e : Expr} {A : Exp} {ds : List D} (h : tr n B e = some A) (q : evI C G (.itr A) ρ = some ds) (hd : isDicE C G (.itr A) ρ = false) : EvI X tg e σ F ds := by
  simp only [evI] at q
  unfold isDicE at hd
  split at q
  · rename_i k ds' he
    cases q
    exact ei_lst (S B e A h X o x σ F ρ hs _ _ he).1.z
  · rename_i k ds' he
    cases q
    exact ei_tup (S B e A h X o x σ F ρ hs _ _ he).1.z
  · rename_i k ds' he
    cases q
    exact ei_rot (S B e A h X o x σ F ρ hs _ _ he).1.z
  · rename_i k ds' he
    simp only [he] at hd
    cases hd
  · cases q
theorem snd_plainIterN (S : Snd g lvl C G n) (o : On g X) (x : XOk X B lvl) (hs : SlotR X.K F σ ρ) {tg e : Expr} {A : Exp} {ds : List D} (h : tr n B e = some A) (q : evI C G (.itn A) ρ = some ds) : EvI X tg e σ F ds := by
  simp only [evI] at q
  split at q
  · rename_i k ds' he
    cases q
    exact ei_lst (S B e A h X o x σ F ρ hs _ _ he).1.z
  · rename_i k ds' he
    cases q
    exact ei_tup (S B e A h X o x σ F ρ hs _ _ he).1.z
  · rename_i k ds' he
    cases q
    exact ei_rot (S B e A h X o x σ F ρ hs _ _ he).1.z
  · cases q
theorem snd_iter (S : Snd g lvl C G n) (hb : BltS g) (o : On g X) (x : XOk X B lvl) (hs : SlotR X.K F σ ρ) {tg e : Expr} {E : Exp} {ds : List D} (h : trIter (tr n B) B tg e = some E) (q : evI C G E ρ = some ds) (hd : isDicE C G E ρ = false) : EvI X tg e σ F ds := by
  have plain : ∀ {e : Expr}, (tr n B e).map Exp.itn = some E → EvI X tg e σ F ds := fun {e} h => by
    obtain ⟨A, hA, rfl⟩ := Option.map_eq_some_iff.mp h
    exact snd_plainIterN S o x hs hA q
  unfold trIter at h
  split at h
  · rename_i f p args kws pos
    split at h
    · rename_i hc
      obtain ⟨hg, hok, rfl⟩ := hc
      split at h
      · rename_i a
        obtain ⟨A, hA, rfl⟩ := Option.map_eq_some_iff.mp h
        simp only [evI] at q
        split at q
        · rename_i k m hm
          obtain ⟨⟨h1, h2⟩, rfl⟩ := if_some q
          exact ei_rng (gl_of x hg) (blt_none hb o (by decide)) (tr_pl hA X) (S B a A hA X o x σ F ρ hs _ _ hm).1.z h1 h2
        · cases q
      · cases h
    · split at h
      · rename_i hc
        obtain ⟨hg, hok, rfl, ht⟩ := hc
        split at h
        · rename_i a
          obtain ⟨A, hA, rfl⟩ := Option.map_eq_some_iff.mp h
          simp only [evI] at q
          split at q
          · rename_i k m hm
            cases q
            cases tg <;> try (cases ht)
            exact ei_enm (gl_of x hg) (blt_none hb o (by decide)) (tr_pl hA X) (S B a A hA X o x σ F ρ hs _ _ hm).1.z
          · cases q
        · cases h
      · split at h
        · rename_i hc
          obtain ⟨hg, hok, rfl, ht⟩ := hc
          split at h
          · rename_i a b
            split at h
            · rename_i A A' hA hA'
              cases h
              simp only [evI] at q
              split at q
              · rename_i k m k' m' hm hm'
                cases q
                cases tg <;> try (cases ht)
                exact ei_zip (gl_of x hg) (blt_none hb o (by decide)) (tr_pl hA X) (tr_pl hA' X) (S B a A hA X o x σ F ρ hs _ _ hm).1.z (S B b A' hA' X o x σ F ρ hs _ _ hm').1.z
              · cases q
            · cases h
          · cases h
        · exact plain h
  · obtain ⟨A, hA, rfl⟩ := Option.map_eq_some_iff.mp h
    exact snd_plainIter S o x hs hA q hd
  · exact plain h
theorem iter_fold {tg e : Expr} {E : Exp} (h : trIter (tr n B) B tg e = some E) (env : Env) (v : Value) : foldedSetIterable e env v = pure v := by
  cases e <;> first | rfl | (obtain ⟨A, hA, _⟩ := Option.map_eq_some_iff.mp (show (tr n B _).map Exp.itn = some E from h); exact tr_fold hA env v)
/-! ### comprehensions -/
theorem snd_ifs (S : Snd g lvl C G n) (o : On g X) (x : XOk X B lvl) {ifs : List Expr} {E : Exp} (h : trIfs (tr n B) ifs = some E) (hs : SlotR X.K F σ ρ) {k : Nat} {b : Bool} (q : ev C G E ρ = some (k, .bl b)) : EvTs X ifs σ F b := by
  unfold trIfs at h
  split at h
  · cases h
    simp only [ev, Option.some.injEq, Prod.mk.injEq, D.bl.injEq] at q
    rw [← q.2]
    exact ets_nil
  · exact ets_one ((S B _ E h X o x σ F ρ hs _ _ q).2 b rfl)
  · cases h
theorem all_mem {l m : List Nat} (h : l.all (fun i => decide (i ∈ m)) = true) : ∀ i ∈ l, i ∈ m := fun i hi => of_decide_eq_true (List.all_eq_true.mp h i hi)
/-- the readings of a comprehension's tests and elements, wherever its block stands -/
def ttB (X : Cx) (scope : Scope) (ifs : List Expr) : TT := fun σ H Q => ∀ s H' C cl fp, WTs (X.blk s H' scope (compEnvC scope cl C X.env) fp) ifs σ H Q
def teB (X : Cx) (scope : Scope) (e : Expr) : TE := fun σ H Q => ∀ s H' C cl fp, WE (X.blk s H' scope (compEnvC scope cl C X.env) fp) e σ H Q
theorem ptB {scope : Scope} {ifs : List Expr} (s : Shared) (H : Hp) (C : Addr) (cl : List (Str × Addr)) (fp : List Addr) : PTs (X.blk s H scope (compEnvC scope cl C X.env) fp) ifs (ttB X scope ifs) := ⟨fun pins s' σ' H'' Q' I hw => hw s H C cl fp pins s' I⟩
theorem peB {scope : Scope} {e : Expr} (s : Shared) (H : Hp) (C : Addr) (cl : List (Str × Addr)) (fp : List Addr) : PE (X.blk s H scope (compEnvC scope cl C X.env) fp) e (teB X scope e) := ⟨fun pins s' σ' H'' Q' I hw => hw s H C cl fp pins s' I⟩
theorem comp_lc (S : Snd g lvl C G n) (o : On g X) (x : XOk X B lvl) {elt tg iter : Expr} {ifs : List Expr} {scope : Scope} {t : Tg} {c y : Exp} {ds ys : List D} {W : TE}
    (hW : ∀ σ H Q, tLc (WI X tg iter) (gOf X.K t) (ttB X scope ifs) (teB X scope elt) ((ownOf B.N scope).map (·.2)) σ H Q → W σ H Q)
    (hc : trIfs (tr n (inner B scope)) ifs = some c) (hy : tr n (inner B scope) elt = some y) (hsub : (tgIdx t).all (fun i => decide (i ∈ (ownOf B.N scope).map (·.2))) = true)
    (hi : EvI X tg iter σ F ds) (hs : SlotR X.K F σ ρ) (q : lcL t (fun r => ev C G c r) (fun r => ev C G y r) (wipeR ρ ((ownOf B.N scope).map (·.2))) ds = some ys) : EvDW X.K W σ F 1 (.lst ys) := fun F1 H e1 e2 Q qq =>
  hW σ H Q (lc_read hi hs (all_mem hsub)
      (fun F' σ' ρ' b k ef hs' hb F1' H' f1 f2 Q' q' s H'' C cl fp => snd_ifs S (o.blk s H'' scope _ fp) (x.blk s H'' scope C cl fp) hc hs' hb F1' H' f1 f2 Q' q')
      (fun F' σ' ρ' k d ef hs' hd F1' H' f1 f2 Q' q' s H'' C cl fp => (S (inner B scope) elt y hy _ (o.blk s H'' scope _ fp) (x.blk s H'' scope C cl fp) σ' F' ρ' hs' k d hd).1.z F1' H' f1 f2 Q' q') q e1 e2 qq)
theorem we_lc (x : XOk X B lvl) {elt tg iter : Expr} {ifs : List Expr} {scope : Scope} {pos : Pos} {t : Tg} (hblk : blkC B.N B.sc scope (ownOf B.N scope) = true)
    (ht : trTg (inner B scope) tg = some t) (hf : ∀ v, foldedSetIterable iter X.env v = pure v) (σ : L2.St) (H : Hp) (Q : VK) (h : tLc (WI X tg iter) (gOf X.K t) (ttB X scope ifs) (teB X scope elt) ((ownOf B.N scope).map (·.2)) σ H Q) : WE X (.ListComp elt [⟨tg, iter, ifs, 0⟩] scope pos) σ H Q :=
  w_of (pe_lc x.calm (by rw [x.N_]; exact x.nd) pi_W (by rw [x.N_, x.sc_]; exact blkOk_by hblk) (fun s H' C cl fp => pg_of (x.blk s H' scope C cl fp) ht) ptB peB hf) h
theorem comp_dc (S : Snd g lvl C G n) (o : On g X) (x : XOk X B lvl) {kx vx tg iter : Expr} {ifs : List Expr} {scope : Scope} {t : Tg} {c y z : Exp} {ds : List D} {ys : List (Key × D)} {W : TE}
    (hW : ∀ σ H Q, tDc (WI X tg iter) (gOf X.K t) (ttB X scope ifs) (teB X scope kx) (teB X scope vx) ((ownOf B.N scope).map (·.2)) σ H Q → W σ H Q)
    (hc : trIfs (tr n (inner B scope)) ifs = some c) (hy : tr n (inner B scope) kx = some y) (hz : tr n (inner B scope) vx = some z) (hsub : (tgIdx t).all (fun i => decide (i ∈ (ownOf B.N scope).map (·.2))) = true)
    (hi : EvI X tg iter σ F ds) (hs : SlotR X.K F σ ρ) (q : dcL t (fun r => ev C G c r) (fun r => ev C G y r) (fun r => ev C G z r) (wipeR ρ ((ownOf B.N scope).map (·.2))) ds [] = some ys) : EvDW X.K W σ F 1 (.dic ys) := fun F1 H e1 e2 Q qq =>
  hW σ H Q (dc_read hi hs (all_mem hsub)
      (fun F' σ' ρ' b k ef hs' hb F1' H' f1 f2 Q' q' s H'' C cl fp => snd_ifs S (o.blk s H'' scope _ fp) (x.blk s H'' scope C cl fp) hc hs' hb F1' H' f1 f2 Q' q')
      (fun F' σ' ρ' k d ef hs' hd F1' H' f1 f2 Q' q' s H'' C cl fp => (S (inner B scope) kx y hy _ (o.blk s H'' scope _ fp) (x.blk s H'' scope C cl fp) σ' F' ρ' hs' k d hd).1.z F1' H' f1 f2 Q' q')
      (fun F' σ' ρ' k d ef hs' hd F1' H' f1 f2 Q' q' s H'' C cl fp => (S (inner B scope) vx z hz _ (o.blk s H'' scope _ fp) (x.blk s H'' scope C cl fp) σ' F' ρ' hs' k d hd).1.z F1' H' f1 f2 Q' q') q e1 e2 qq)
theorem we_dc (x : XOk X B lvl) {kx vx tg iter : Expr} {ifs : List Expr} {scope : Scope} {pos : Pos} {t : Tg} (hblk : blkC B.N B.sc scope (ownOf B.N scope) = true)
    (ht : trTg (inner B scope) tg = some t) (hf : ∀ v, foldedSetIterable iter X.env v = pure v) (σ : L2.St) (H : Hp) (Q : VK) (h : tDc (WI X tg iter) (gOf X.K t) (ttB X scope ifs) (teB X scope kx) (teB X scope vx) ((ownOf B.N scope).map (·.2)) σ H Q) : WE X (.DictComp kx vx [⟨tg, iter, ifs, 0⟩] scope pos) σ H Q :=
  w_of (pe_dc x.calm (by rw [x.N_]; exact x.nd) pi_W (by rw [x.N_, x.sc_]; exact blkOk_by hblk) (fun s H' C cl fp => pg_of (x.blk s H' scope C cl fp) ht) ptB peB peB hf) h
theorem iter_dic {tg e : Expr} {E : Exp} {ds : List D} (h : trIter (tr n B) B tg e = some E) (q : evI C G E ρ = some ds) (hd : isDicE C G E ρ = true) :
    ∃ y pos i kvs, e = .Name y pos ∧ okName y = true ∧ visB B.sc y = true ∧ slotOf B.N y = some i ∧ ρ[i]? = some (some (.dic kvs)) ∧ ds = kvs.map fun kv => dOfKey kv.1 := by
  unfold isDicE at hd
  split at hd
  · rename_i A
    split at hd
    · rename_i k kvs he
      simp only [evI, he] at q
      split at q
      · rename_i i
        cases q
        simp only [ev] at he
        have hk : ρ[i]? = some (some (.dic kvs)) := by
          split at he
          · rename_i d hd'
            cases he
            exact hd'
          · cases he
        -- the text
        have : ∃ y pos, e = .Name y pos ∧ tr n B e = some (.var i) := by
          unfold trIter at h
          split at h
          · split at h
            · split at h
              · obtain ⟨_, _, z⟩ := Option.map_eq_some_iff.mp h; cases z
              · cases h
            · split at h
              · split at h
                · obtain ⟨_, _, z⟩ := Option.map_eq_some_iff.mp h; cases z
                · cases h
              · split at h
                · split at h
                  · split at h <;> cases h
                  · cases h
                · obtain ⟨_, _, z⟩ := Option.map_eq_some_iff.mp h; cases z
          · rename_i y p
            obtain ⟨_, hA, z⟩ := Option.map_eq_some_iff.mp h
            cases z
            exact ⟨y, p, rfl, hA⟩
          · obtain ⟨_, _, z⟩ := Option.map_eq_some_iff.mp h; cases z
        obtain ⟨y, pos, rfl, ht⟩ := this
        cases n with
        | zero => cases ht
        | succ n =>
          unfold tr at ht
          dsimp only at ht
          split at ht
          · rename_i h1
            split at ht
            · rename_i h2
              obtain ⟨j, hj, e⟩ := Option.map_eq_some_iff.mp ht
              cases e
              exact ⟨y, pos, i, kvs, rfl, h1, h2, hj, hk, rfl⟩
            · split at ht <;> cases ht
          · cases ht
      · cases q
    · cases hd
  · cases hd
/-- a comprehension, over a dict too -/
theorem comp_any (x : XOk X B lvl) (hb : BltS g) (S : Snd g lvl C G n) (o : On g X) (hs : SlotR X.K F σ ρ) {tg iter : Expr} {E : Exp} {ds : List D} {k : Nat} {d : D} {W : TE} (lk : Lockable W) (h : trIter (tr n B) B tg iter = some E) (q : evI C G E ρ = some ds)
    (go : ∀ F', SlotR X.K F' σ ρ → EvI X tg iter σ F' ds → EvDW X.K W σ F' k d) : EvDW X.K W σ F k d := by
  cases hd : isDicE C G E ρ with
  | false => exact go F hs (snd_iter S hb o x hs h q hd)
  | true =>
    obtain ⟨y, pos, i, kvs, rfl, hok, hvis, hi, hr, rfl⟩ := iter_dic h q hd
    obtain ⟨v, hv, dv⟩ := hs.at_ i _ hr
    obtain ⟨h1, h2, h3⟩ := ok_dbg hok
    cases dv with
    | dic g1 g2 g3 g4 =>
      rename_i p ws
      have name : ∀ (F1 H : Hp) (Q : VK), Q (.ref p) H → WE X (.Name y pos) σ H Q := fun F1 H Q q => w_of (pe_var (by rw [x.N_]; exact slotOf_get hi) (by rw [x.sc_]; exact vis_of hvis) h1 h2) ⟨_, hv, q⟩
      rcases g1 with g1 | ⟨od, g1⟩
      · refine ev_lock lk g1 fun od => ?_
        have l : Lkd p od ws F (upd F p (.frz od (.dK ws))) := .of g1
        refine go _ ⟨hs.len, fun j d' hj => ?_⟩ (ei_keys (fun F1 H _ _ Q q => name F1 H Q q) upd_same g2 g4)
        obtain ⟨v', hv', dv'⟩ := hs.at_ j d' hj
        exact ⟨v', hv', l.dat dv'⟩
      · exact go F hs (ei_keys (fun F1 H _ _ Q q => name F1 H Q q) g1 g2 g4)
end
end PV

set_option Elab.async false
set_option linter.all false
set_option maxRecDepth 100000
set_option maxHeartbeats 4000000
/-! PV, part N: expressions are sound, the induction. -/
namespace PV
open PySem PySem.Spec PyProof.Rows L2
section
variable {g : G5} {lvl : Nat} {C : Str → List D → List Str → List D → Option (Nat × D)} {G : Str → Option D}
variable {n : Nat} {B : Blk} {X : Cx} {σ : L2.St} {F : Hp} {ρ : Ro}
/-- list(d), the dict locked or not -/
theorem list_dic {H : Hp} {p : Addr} {kvs : List (Key × V)} {Q : VK} (hc : X.calm = true) (h : Rd H p (.dK kvs)) (q : ∀ l, H l = none → Q (.ref l) (upd H l (.lst (kvs.map fun kv => kV kv.1)))) : WC X (.type "list") [.ref p] H Q := by
  intro pins s σ us I r
  obtain ⟨u, rfl, rx⟩ := vals1 r
  obtain rfl : u = Value.ref p := rx
  obtain ⟨z, lo, vs, rk, hd⟩ := dk_rd I.hok h
  obtain ⟨ep, hat⟩ := hd.dictAt
  have hl : kvs.length = vs.length := Paired.length rk
  refine PySem.W.kdl_call (PySem.W.kdl_dict (knd := mixKind X.prog X.w) (kvs := vs) (ep := ep) lo) (I.ok.hd hc) hat (by rw [← hl]; exact z) fun h' tk acc' c' hkeep hS hacc => ?_
  refine ⟨.ref s.heap.objs.size, upd H s.heap.objs.size (.lst (kvs.map fun kv => kV kv.1)), I.laid hkeep (Nat.le_refl _) (show ObjOk X.prog X.w _ _ _ (.lst (kvs.map fun kv => kV kv.1)) from ⟨?_, acc'.toList, c', ?_, ?_⟩), rfl, q _ (I.hok.fresh (Nat.le_refl _))⟩
  · rw [List.length_map]; exact z
  · have el : acc'.toList.length = acc'.size := by simp
    refine vals_of_at (by rw [List.length_map, el, hacc.1, hl]) fun j x w h1 h2 => ?_
    obtain ⟨k, y, hky, hi⟩ := hacc.2 j w (by rw [← Array.getElem?_toList]; exact h2)
    have e1 : (kvs.map (·.1))[j]? = some k := by
      rw [KV.keys rk, List.getElem?_map, hky] <;> rfl
    have e2 : (kvs.map fun kv => kV kv.1)[j]? = some (kV k) := by
      have e3 : (kvs.map fun kv => kV kv.1) = (kvs.map (·.1)).map kV := by rw [List.map_map] <;> rfl
      rw [e3, List.getElem?_map, e1] <;> rfl
    rw [e2] at h1
    cases h1
    exact keyIs_rel hi
  · rw [Array.toArray_toList]; exact hS
theorem inv_lenset {d' d : D} {k : Nat} (h : bltD .lenset d' = some (k, d)) : ∃ ds ns, d' = .lst ds ∧ intsD ds = some ns ∧ ns.length ≤ 4000 ∧ k = 0 ∧ d = .int (setSize ns) := by
  cases d' <;> try (cases (show (none : Option (Nat × D)) = some (k, d) from h))
  rename_i ds
  simp only [bltD] at h
  split at h
  · rename_i ns hns
    obtain ⟨hl, e⟩ := if_some h
    cases e
    exact ⟨ds, ns, rfl, hns, hl, rfl, rfl⟩
  · cases h
theorem inv_listvals {d' d : D} {k : Nat} (h : bltD .listvals d' = some (k, d)) : ∃ kvs, d' = .dic kvs ∧ k = 1 ∧ d = .lst (kvs.map (·.2)) := by
  cases d' <;> try (cases (show (none : Option (Nat × D)) = some (k, d) from h))
  cases h
  exact ⟨_, rfl, rfl, rfl⟩
theorem inv_all {d' d : D} {k : Nat} (h : bltD .all d' = some (k, d)) : ∃ ds bs, d' = .lst ds ∧ bools ds = some bs ∧ k = 0 ∧ d = .bl (bs.all id) := by
  cases d' <;> try (cases (show (none : Option (Nat × D)) = some (k, d) from h))
  rename_i ds
  obtain ⟨bs, hbs, e⟩ := Option.map_eq_some_iff.mp (show (bools ds).map (fun bs => (0, D.bl (bs.all id))) = some (k, d) from h)
  cases e
  exact ⟨ds, bs, rfl, hbs, rfl, rfl⟩
theorem inv_any {d' d : D} {k : Nat} (h : bltD .any d' = some (k, d)) : ∃ ds bs, d' = .lst ds ∧ bools ds = some bs ∧ k = 0 ∧ d = .bl (bs.any id) := by
  cases d' <;> try (cases (show (none : Option (Nat × D)) = some (k, d) from h))
  rename_i ds
  obtain ⟨bs, hbs, e⟩ := Option.map_eq_some_iff.mp (show (bools ds).map (fun bs => (0, D.bl (bs.any id))) = some (k, d) from h)
  cases e
  exact ⟨ds, bs, rfl, hbs, rfl, rfl⟩
theorem snd_call (S : Snd g lvl C G n) (hc : CallS g lvl C) (hb : BltS g) (o : On g X) (x : XOk X B lvl) (hs : SlotR X.K F σ ρ) {f : Str} {args : List Expr} {kws : List Keyword} {p pos : Pos} {E : Exp} {k : Nat} {d : D}
    (h : trCall (tr n B) B f args kws = some E) (q : ev C G E ρ = some (k, d)) : EvD X (.Call (.Name f p) args kws pos) σ F k d := by
  have hu : X.A.units + 64 < cLine := x.room.units
  unfold trCall at h
  split at h
  · rename_i hgl
    obtain ⟨hg, hok⟩ := hgl
    obtain ⟨ok1, ok2, ok3⟩ := ok_dbg hok
    split at h
    · rename_i hmem
      have hm := blt_none hb o hmem
      split at h
      · rename_i a
        split at h
        · rename_i ef
          subst ef
          split at h
          · rename_i b hset
            split at h
            · rename_i hg2
              obtain ⟨A, hA, rfl⟩ := Option.map_eq_some_iff.mp h
              simp only [ev] at q
              split at q
              · rename_i k' d' hd'
                cases a <;> try (cases (show (none : Option Expr) = some b from hset))
                rename_i f2 as2 ks2 pos2
                unfold isSetCall at hset
                split at hset
                · rename_i a' g' p' a'' pos' heq
                  cases heq
                  obtain ⟨hgs, rfl⟩ := if_some hset
                  subst hgs
                  obtain ⟨ds, ns, rfl, hns, hl, rfl, rfl⟩ := inv_lenset q
                  exact ev_lenset (gl_of x hg) hm (gl_of x hg2) (blt_none hb o (by decide)) x.calm (tr_pl hA X) (S B _ A hA X o x σ F ρ hs _ _ hd').1.z hns hl
                · cases hset
              · cases q
            · cases h
          · obtain ⟨A, hA, rfl⟩ := Option.map_eq_some_iff.mp h
            simp only [ev] at q
            split at q
            · rename_i k' d' hd'
              obtain ⟨m, hm', e⟩ := Option.map_eq_some_iff.mp (show (lenD d').map (fun n => (0, D.int n)) = some (k, d) from q)
              cases e
              exact ev_callB (gl_of x hg) hm boot_len ok3 ok1 (tr_pl hA X) (S B _ A hA X o x σ F ρ hs _ _ hd').1.z fun F1 H F2 H2 v Q _ st d1 q => len_ok st.fh d1 hm' (give q st (.int _))
            · cases q
        · split at h
          · rename_i ef
            subst ef
            split at h
            · rename_i b hval
              obtain ⟨A, hA, rfl⟩ := Option.map_eq_some_iff.mp h
              simp only [ev] at q
              split at q
              · rename_i k' d' hd'
                unfold isValues at hval
                split at hval
                · obtain ⟨⟨rfl, hl, hbs⟩, rfl⟩ := if_some hval
                  obtain ⟨kvs, rfl, rfl, rfl⟩ := inv_listvals q
                  exact ev_listvals x.calm (gl_of x hg) hm (base_of hbs _ _ _) hl (S B _ A hA X o x σ F ρ hs _ _ hd').1.z
                · cases hval
              · cases q
            · obtain ⟨A, hA, rfl⟩ := Option.map_eq_some_iff.mp h
              simp only [ev] at q
              split at q
              · rename_i k' d' hd'
                refine ev_callTy (gl_of x hg) hm (show bootBuiltins "list" = some (.type "list") by decide +kernel) ok3 ok1 (tr_pl hA X) (S B _ A hA X o x σ F ρ hs _ _ hd').1.z fun F1 H F2 H2 v Q _ st d1 qq => ?_
                cases d1 <;> try (cases (show (none : Option (Nat × D)) = some (k, d) from q))
                · rename_i h1 h2 h3
                  cases q
                  exact wc_of call_list_of ⟨_, _, rfl, .inl (.of (st.fh _ _ h1)), fun l hl => give_lst qq st hl h2 h3⟩
                · rename_i h1 h2 h3
                  cases q
                  exact wc_of call_list_of ⟨_, _, rfl, .inr (.of (st.fh _ _ h1)), fun l hl => give_lst qq st hl h2 h3⟩
                · rename_i h1 h2 h3
                  cases q
                  exact wc_of call_list_of ⟨_, _, rfl, .inr (ex_t st.fh h1), fun l hl => give_lst qq st hl h2 h3⟩
                · rename_i h1 h2 h3 h4
                  cases q
                  rename_i kvs ds
                  intro pins s σ' us I rv
                  obtain ⟨u, rfl, r⟩ := vals1 rv
                  exact list_dic x.calm (ex_rd st.fh h1) (fun l hl => give_lst qq st hl (keys_dats h2) (by rw [List.length_map]; exact h4)) pins s σ' _ I rv
              · cases q
          · split at h
            · rename_i ef
              subst ef
              obtain ⟨A, hA, rfl⟩ := Option.map_eq_some_iff.mp h
              simp only [ev] at q
              split at q
              · rename_i k' d' hd'
                obtain ⟨ds, bs, rfl, hbs, rfl, rfl⟩ := inv_all q
                refine ev_callB (gl_of x hg) hm (show bootBuiltins "all" = some (.builtin "all") by decide +kernel) ok3 ok1 (tr_pl hA X) (S B _ A hA X o x σ F ρ hs _ _ hd').1.z fun F1 H F2 H2 v Q _ st d1 qq => ?_
                cases d1 with
                | lst h1 h2 h3 => exact wc_of (cr_all x.calm) ⟨_, bs, rfl, by rw [← bools_dats h2 hbs]; exact .of (st.fh _ _ h1), give qq st (.bl _)⟩
              · cases q
            · split at h
              · rename_i ef
                subst ef
                obtain ⟨A, hA, rfl⟩ := Option.map_eq_some_iff.mp h
                simp only [ev] at q
                split at q
                · rename_i k' d' hd'
                  obtain ⟨ds, bs, rfl, hbs, rfl, rfl⟩ := inv_any q
                  refine ev_callB (gl_of x hg) hm (show bootBuiltins "any" = some (.builtin "any") by decide +kernel) ok3 ok1 (tr_pl hA X) (S B _ A hA X o x σ F ρ hs _ _ hd').1.z fun F1 H F2 H2 v Q _ st d1 qq => ?_
                  cases d1 with
                  | lst h1 h2 h3 => exact wc_of (cr_any x.calm) ⟨_, bs, rfl, by rw [← bools_dats h2 hbs]; exact .of (st.fh _ _ h1), give qq st (.bl _)⟩
                · cases q
              · split at h
                · rename_i ef
                  subst ef
                  obtain ⟨A, hA, rfl⟩ := Option.map_eq_some_iff.mp h
                  simp only [ev] at q
                  split at q
                  · rename_i k' d' hd'
                    refine ev_callTy (gl_of x hg) hm (show bootBuiltins "tuple" = some (.type "tuple") by decide +kernel) ok3 ok1 (tr_pl hA X) (S B _ A hA X o x σ F ρ hs _ _ hd').1.z fun F1 H F2 H2 v Q _ st d1 qq => ?_
                    cases d1 <;> try (cases (show (none : Option (Nat × D)) = some (k, d) from q))
                    · rename_i h1 h2 h3
                      cases q
                      exact wc_of call_tuple_of ⟨_, _, rfl, .inl ⟨.of (st.fh _ _ h1), fun l hl => give_tup qq st hl h2 h3⟩⟩
                    · rename_i h1 h2 h3
                      cases q
                      exact wc_of call_tuple_of ⟨_, _, rfl, .inr ⟨.of (st.fh _ _ h1), give qq st (.tup h1 h2 h3)⟩⟩
                  · cases q
                · cases h
      · rename_i a b
        split at h
        · rename_i ef
          subst ef
          split at h
          · rename_i T hT
            cases b <;> try (cases (show (none : Option Str) = some T from hT))
            cases hT
            split at h
            · rename_i hgT
              obtain ⟨t1, t2, t3⟩ := ok_dbg hgT.2
              split at h
              · rename_i t A ht hA
                cases h
                simp only [ev] at q
                split at q
                · rename_i k' d' hd'
                  have hz := (S B _ A hA X o x σ F ρ hs _ _ hd').1.z
                  unfold tyOf at ht
                  split at ht
                  · rename_i e; subst e; cases ht; cases q
                    exact ev_isi (gl_of x hg) hm (gl_of x hgT.1) (blt_none hb o (by decide)) (show bootBuiltins "int" = some (.type "int") by decide +kernel) t3 t1 (tr_pl hA X) hz (ty_int d')
                  · split at ht
                    · rename_i e; subst e; cases ht; cases q
                      exact ev_isi (gl_of x hg) hm (gl_of x hgT.1) (blt_none hb o (by decide)) (show bootBuiltins "bool" = some (.type "bool") by decide +kernel) t3 t1 (tr_pl hA X) hz (ty_bool d')
                    · split at ht
                      · rename_i e; subst e; cases ht; cases q
                        exact ev_isi (gl_of x hg) hm (gl_of x hgT.1) (blt_none hb o (by decide)) (show bootBuiltins "list" = some (.type "list") by decide +kernel) t3 t1 (tr_pl hA X) hz (ty_list d')
                      · split at ht
                        · rename_i e; subst e; cases ht; cases q
                          exact ev_isi (gl_of x hg) hm (gl_of x hgT.1) (blt_none hb o (by decide)) (show bootBuiltins "tuple" = some (.type "tuple") by decide +kernel) t3 t1 (tr_pl hA X) hz (ty_tuple d')
                        · split at ht
                          · rename_i e; subst e; cases ht; cases q
                            exact ev_isi (gl_of x hg) hm (gl_of x hgT.1) (blt_none hb o (by decide)) (show bootBuiltins "str" = some (.type "str") by decide +kernel) t3 t1 (tr_pl hA X) hz (ty_str d')
                          · cases ht
                · cases q
              · cases h
            · cases h
          · cases h
        · cases h
      · cases h
    · split at h
      · rename_i as ks ws has hks hws
        cases h
        simp only [ev] at q
        split at q
        · rename_i ds es hds hes
          exact hc X o x.calm x.room f args kws ks p pos σ F ds es k d (gl_of x hg) hok (list_pl has) (list_len has hds) hks (snd_list S o x hs has hds) (snd_kws S o x hs hws hes) q
        · cases q
      · cases h
  · cases h
end
end PV

set_option Elab.async false
set_option linter.all false
set_option maxRecDepth 100000
set_option maxHeartbeats 4000000
/-! PV, part O: expressions are sound, the induction. -/
namespace PV
open PySem PySem.Spec PyProof.Rows L2
section
variable {g : G5} {lvl : Nat} {C : Str → List D → List Str → List D → Option (Nat × D)} {G : Str → Option D}
theorem snd_all (hc : CallS g lvl C) (hg : GloS g G) (hb : BltS g) : ∀ n, Snd g lvl C G n
  | 0 => fun B e E h => by cases h
  | n + 1 => by
    have S := snd_all hc hg hb n
    intro B e E h X o x σ F ρ hs k d q
    have hu : X.A.units + 64 < cLine := x.room.units
    cases e <;> try (cases (show (none : Option Exp) = some E from h))
    case Name y pos =>
      refine snd_val ?_ fun _ => rfl
      unfold tr at h
      dsimp only at h
      split at h
      · rename_i hok
        obtain ⟨ok1, ok2, ok3⟩ := ok_dbg hok
        split at h
        · rename_i hv
          obtain ⟨i, hi, rfl⟩ := Option.map_eq_some_iff.mp h
          simp only [ev] at q
          split at q
          · rename_i d' hd'
            cases q
            obtain ⟨v, h1, h2⟩ := hs.at_ i _ hd'
            exact ev_var (by rw [x.N_]; exact slotOf_get hi) (by rw [x.sc_]; exact vis_of hv) ok1 ok2 h1 h2
          · cases q
        · split at h
          · rename_i hgl
            cases h
            simp only [ev] at q
            obtain ⟨d', hd', e⟩ := Option.map_eq_some_iff.mp q
            cases e
            obtain ⟨v, u, h1, h2, h3⟩ := hg _ _ hd'
            exact ev_glob (gl_of x hgl) (by rw [o.m]; exact h1) h2 (by rw [o.k]; exact h3) ok1
          · cases h
      · cases h
    case Constant c kk pos =>
      refine snd_val ?_ fun _ => rfl
      cases c <;> try (cases (show (none : Option Exp) = some E from h))
      · cases h; cases q; exact ev_non
      · cases h; cases q; exact ev_bl
      · cases h; cases q; exact ev_int
      · cases h; cases q; exact ev_str
    case BinOp a op b pos =>
      refine snd_val ?_ fun _ => rfl
      unfold tr at h
      dsimp only at h
      split at h
      · rename_i bo A A' hbo hA hA'
        cases h
        simp only [ev] at q
        split at q
        · rename_i k1 d1 k2 d2 h1 h2
          rw [bopOf_eq hbo]
          exact ev_bin (S B a A hA X o x σ F ρ hs _ _ h1).1.z (S B b A' hA' X o x σ F ρ hs _ _ h2).1.z q
        · cases q
      · cases h
    case UnaryOp op a pos =>
      cases op <;> try (cases (show (none : Option Exp) = some E from h))
      · obtain ⟨A, hA, rfl⟩ := Option.map_eq_some_iff.mp (show (tr n B a).map Exp.nt = some E from h)
        simp only [ev] at q
        split at q
        · rename_i k' b hb'
          cases q
          obtain ⟨h1, h2⟩ := S B a A hA X o x σ F ρ hs _ _ hb'
          exact ⟨ev_not h1.z, fun b' e => by cases e; exact et_not (h2 b rfl)⟩
        · cases q
      · obtain ⟨A, hA, rfl⟩ := Option.map_eq_some_iff.mp (show (tr n B a).map Exp.neg = some E from h)
        refine snd_val ?_ fun _ => rfl
        simp only [ev] at q
        split at q
        · rename_i k' i hi
          cases q
          exact ev_neg (S B a A hA X o x σ F ρ hs _ _ hi).1.z
        · cases q
    case BoolOp op vs pos =>
      cases op with
      | And =>
        have h' : trBool (tr n B) .and_ vs = some E := h
        cases vs with
        | nil => cases h'
        | cons a r =>
          cases r with
          | nil =>
            have h'' : tr n B a = some E := h'
            obtain ⟨h1, h2⟩ := S B a E h'' X o x σ F ρ hs k d q
            refine ⟨fun F1 H e1 e2 Q qq => w_of (pe_one pe_W) (h1 F1 H e1 e2 Q qq), fun b eb => ?_⟩
            exact (snd_and S o x hs pos h' q b eb).2.tst
          | cons b r =>
            obtain ⟨rfl, t, rfl⟩ := and_bool (by simp) h' q
            obtain ⟨h1, h2⟩ := snd_and S o x hs pos h' q t rfl
            exact ⟨h1.d, fun b' e => by cases e; exact h2.tst⟩
      | Or =>
        have h' : trBool (tr n B) .or_ vs = some E := h
        cases vs with
        | nil => cases h'
        | cons a r =>
          cases r with
          | nil =>
            have h'' : tr n B a = some E := h'
            obtain ⟨h1, h2⟩ := S B a E h'' X o x σ F ρ hs k d q
            refine ⟨fun F1 H e1 e2 Q qq => w_of (pe_one pe_W) (h1 F1 H e1 e2 Q qq), fun b eb => ?_⟩
            exact (snd_or S o x hs pos h' q b eb).2.tst
          | cons b r =>
            obtain ⟨rfl, t, rfl⟩ := or_bool (by simp) h' q
            obtain ⟨h1, h2⟩ := snd_or S o x hs pos h' q t rfl
            exact ⟨h1.d, fun b' e => by cases e; exact h2.tst⟩
    case Compare a ops cs pos =>
      unfold tr at h
      dsimp only at h
      split at h
      · rename_i op b
        split at h
        · rename_i co A A' hco hA hA'
          cases h
          simp only [ev] at q
          split at q
          · rename_i k1 d1 k2 d2 h1 h2
            obtain ⟨c, hc', e⟩ := Option.map_eq_some_iff.mp q
            cases e
            rw [cmpOf_eq hco]
            have z1 := (S B a A hA X o x σ F ρ hs _ _ h1).1.z
            have z2 := (S B b A' hA' X o x σ F ρ hs _ _ h2).1.z
            exact ⟨ev_cmp hu z1 z2 hc' (tr_marks hA' _), fun b' e => by cases e; exact et_cmp hu z1 z2 hc' (tr_marks hA' _)⟩
          · cases q
        · cases h
      · rename_i op op' b c
        split at h
        · rename_i co co' A A' A'' hco hco' hA hA' hA''
          cases h
          simp only [ev] at q
          split at q
          · rename_i k1 d1 k2 d2 h1 h2
            rw [cmpOf_eq hco, cmpOf_eq hco']
            have z1 := (S B a A hA X o x σ F ρ hs _ _ h1).1.z
            have z2 := (S B b A' hA' X o x σ F ρ hs _ _ h2).1.z
            have lm : lastMarks [copOf co, copOf co'] [b, c] = false := tr_marks hA'' _
            split at q
            · rename_i hc1
              split at q
              · rename_i k3 d3 h3
                obtain ⟨t, ht, e⟩ := Option.map_eq_some_iff.mp q
                cases e
                have z3 := (S B c A'' hA'' X o x σ F ρ hs _ _ h3).1.z
                exact ⟨ev_chain hu z1 z2 hc1 (fun _ => ⟨z3, ht⟩) (fun z => nomatch z) lm, fun b' e => by cases e; exact et_chain hu z1 z2 hc1 (fun _ => ⟨z3, ht⟩) (fun z => nomatch z) lm⟩
              · cases q
            · rename_i hc1
              cases q
              exact ⟨ev_chain (z := .non) hu z1 z2 hc1 (fun z => nomatch z) (fun _ => rfl) lm, fun b' e => by cases e; exact et_chain (z := .non) hu z1 z2 hc1 (fun z => nomatch z) (fun _ => rfl) lm⟩
            · cases q
          · cases q
        · cases h
      · cases h
    case IfExp t a b pos =>
      unfold tr at h
      dsimp only at h
      split at h
      · rename_i T A A' hT hA hA'
        cases h
        simp only [ev] at q
        split at q
        · rename_i k1 h1
          obtain ⟨t1, t2⟩ := S B t T hT X o x σ F ρ hs _ _ h1
          obtain ⟨a1, a2⟩ := S B a A hA X o x σ F ρ hs _ _ q
          exact ⟨ev_ife (t2 true rfl) (fun _ => a1) (fun z => nomatch z), fun b' e => et_ife (t2 true rfl) (fun _ => a2 b' e) (fun z => nomatch z)⟩
        · rename_i k1 h1
          obtain ⟨t1, t2⟩ := S B t T hT X o x σ F ρ hs _ _ h1
          obtain ⟨a1, a2⟩ := S B b A' hA' X o x σ F ρ hs _ _ q
          exact ⟨ev_ife (t2 false rfl) (fun z => nomatch z) (fun _ => a1), fun b' e => et_ife (t2 false rfl) (fun z => nomatch z) (fun _ => a2 b' e)⟩
        · cases q
      · cases h
    case Call f args kws pos =>
      refine snd_val ?_ fun _ => rfl
      cases f <;> try (cases (show (none : Option Exp) = some E from h))
      · rename_i a m apos
        unfold tr at h
        dsimp only at h
        split at h
        · rename_i b
          split at h
          · rename_i hm
            obtain ⟨rfl, hbs, hl⟩ := hm
            split at h
            · rename_i A A' hA hA'
              cases h
              simp only [ev] at q
              split at q
              · rename_i k1 ds k2 d2 h1 h2
                split at q
                · rename_i hf
                  obtain ⟨j, hj, e⟩ := Option.map_eq_some_iff.mp q
                  cases e
                  exact ev_index (S B a A hA X o x σ F ρ hs _ _ h1).1.z (S B b A' hA' X o x σ F ρ hs _ _ h2).1.z hf.1 hf.2 hj (tr_pl hA' X) (base_of hbs _ _ _) hl
                · cases q
              · cases q
            · cases h
          · cases h
        · cases h
      · rename_i y p
        exact snd_call S hc hb o x hs (show trCall (tr n B) B y args kws = some E from h) q
    case Subscript a b pos =>
      refine snd_val ?_ fun _ => rfl
      unfold tr at h
      dsimp only at h
      split at h
      · rename_i lo hi st p2
        split at h
        · split at h
          · rename_i A L U hA hL hU
            cases h
            simp only [ev] at q
            split at q
            · rename_i k1 d1 l u h1 hl hu'
              obtain ⟨tl, pl, ql⟩ := snd_part S o x hs hL hl
              obtain ⟨th, ph, qh⟩ := snd_part S o x hs hU hu'
              exact ev_slc (S B a A hA X o x σ F ρ hs _ _ h1).1.z q ql pl qh ph
            · cases q
          · cases h
        · cases h
      · split at h
        · rename_i A A' hA hA'
          cases h
          simp only [ev] at q
          split at q
          · rename_i k1 d1 k2 d2 h1 h2
            obtain ⟨d', hd', e⟩ := Option.map_eq_some_iff.mp q
            cases e
            exact ev_idx hu (S B a A hA X o x σ F ρ hs _ _ h1).1.z (S B b A' hA' X o x σ F ρ hs _ _ h2).1.z hd' (tr_ix hA')
          · cases q
        · cases h
    case List es pos =>
      refine snd_val ?_ fun _ => rfl
      obtain ⟨A, hA, rfl⟩ := Option.map_eq_some_iff.mp (show (trList (tr n B) es).map Exp.lst = some E from h)
      simp only [ev] at q
      split at q
      · rename_i ds hds
        obtain ⟨hl, e⟩ := if_some q
        cases e
        exact ev_lst (snd_list S o x hs hA hds) hl
      · cases q
    case Tuple es kk pos =>
      refine snd_val ?_ fun _ => rfl
      obtain ⟨A, hA, rfl⟩ := Option.map_eq_some_iff.mp (show (trList (tr n B) es).map Exp.tup = some E from h)
      simp only [ev] at q
      split at q
      · rename_i ds hds
        obtain ⟨hl, e⟩ := if_some q
        cases e
        exact ev_tup (snd_list S o x hs hA hds) hl
      · cases q
    case Dict ks vs pos =>
      refine snd_val ?_ fun _ => rfl
      unfold tr at h
      dsimp only at h
      split at h
      · cases h; cases q; exact ev_dnew
      · rename_i kx vx
        split at h
        · rename_i A A' hA hA'
          cases h
          simp only [ev] at q
          split at q
          · rename_i k1 ks k2 v h1 h2
            split at q
            · rename_i kk hkk
              cases q
              exact ev_dpair hu (S B kx A hA X o x σ F ρ hs _ _ h1).1.z (S B vx A' hA' X o x σ F ρ hs _ _ h2).1.z hkk
            · cases q
          · cases q
        · cases h
      · cases h
    case ListComp elt gs scope pos =>
      refine snd_val ?_ fun _ => rfl
      unfold tr at h
      dsimp only at h
      split at h
      · rename_i tg iter ifs as
        split at h
        · rename_i hcond
          obtain ⟨rfl, hblk⟩ := hcond
          split at h
          · rename_i t it c y ht hit hcc hy
            split at h
            · rename_i hsub
              cases h
              simp only [ev] at q
              split at q
              · rename_i ds hds
                obtain ⟨ys, hys, e⟩ := Option.map_eq_some_iff.mp q
                cases e
                exact comp_any x hb S o hs we_lock hit hds fun F' hs' hi' => comp_lc S o x (we_lc x hblk ht (iter_fold hit _)) hcc hy hsub hi' hs' hys
              · cases q
            · cases h
          · cases h
        · cases h
      · cases h
    case DictComp kx vx gs scope pos =>
      refine snd_val ?_ fun _ => rfl
      unfold tr at h
      dsimp only at h
      split at h
      · rename_i tg iter ifs as
        split at h
        · rename_i hcond
          obtain ⟨rfl, hblk⟩ := hcond
          split at h
          · rename_i t it c y z ht hit hcc hy hz
            split at h
            · rename_i hsub
              cases h
              simp only [ev] at q
              split at q
              · rename_i ds hds
                obtain ⟨ys, hys, e⟩ := Option.map_eq_some_iff.mp q
                cases e
                exact comp_any x hb S o hs we_lock hit hds fun F' hs' hi' => comp_dc S o x (we_dc x hblk ht (iter_fold hit _)) hcc hy hz hsub hi' hs' hys
              · cases q
            · cases h
          · cases h
        · cases h
      · cases h
end
end PV

set_option Elab.async false
set_option linter.all false
set_option maxRecDepth 100000
set_option maxHeartbeats 2000000
/-! PV, part P: a body's slots, with what it owns. -/
namespace PV
open PySem PySem.Spec PyProof.Rows L2
abbrev Env := List (Option (Nat × D))
inductive Rel (K : PySem.W.Frag) (F H : Hp) : L2.St → Env → List Addr → Prop
  | nil : Rel K F H [] [] []
  | no {o : Option V} {σ : L2.St} {ρ : Env} {fp : List Addr} : Rel K F H σ ρ fp → Rel K F H (o :: σ) (none :: ρ) fp
  | sl {k : Nat} {v : V} {d : D} {fq : List Addr} {σ : L2.St} {ρ : Env} {fp : List Addr} : Own K F H k v d fq → Rel K F H σ ρ fp → (∀ a ∈ fq, a ∉ fp) → Rel K F H (some v :: σ) (some (k, d) :: ρ) (fq ++ fp)
section
variable {K : PySem.W.Frag} {F F' H H' : Hp}
theorem Rel.len : ∀ {σ : L2.St} {ρ : Env} {fp : List Addr}, Rel K F H σ ρ fp → σ.length = ρ.length
  | _, _, _, .nil => rfl
  | _, _, _, .no h => by rw [List.length_cons, List.length_cons, h.len]
  | _, _, _, .sl _ h _ => by rw [List.length_cons, List.length_cons, h.len]
theorem Rel.get : ∀ {σ : L2.St} {ρ : Env} {fp : List Addr} {i : Nat} {k : Nat} {d : D}, Rel K F H σ ρ fp → ρ[i]? = some (some (k, d)) → ∃ v fq, σ[i]? = some (some v) ∧ Own K F H k v d fq ∧ ∀ a ∈ fq, a ∈ fp
  | _, _, _, _, _, _, .nil, e => by simp at e
  | _, _, _, 0, _, _, .no _, e => by simp at e
  | _, _, _, i + 1, k, d, .no h, e => by
    obtain ⟨v, fq, h1, h2, h3⟩ := h.get (i := i) (by simpa using e)
    exact ⟨v, fq, by simpa using h1, h2, h3⟩
  | _, _, _, 0, _, _, .sl o h n, e => by
    simp at e
    obtain ⟨rfl, rfl⟩ := e
    exact ⟨_, _, rfl, o, fun a ha => List.mem_append_left _ ha⟩
  | _, _, _, i + 1, k, d, .sl o h n, e => by
    obtain ⟨v, fq, h1, h2, h3⟩ := h.get (i := i) (by simpa using e)
    exact ⟨v, fq, by simpa using h1, h2, fun a ha => List.mem_append_right _ (h3 a ha)⟩
theorem Rel.loose : ∀ {σ : L2.St} {ρ : Env} {fp : List Addr}, Rel K F H σ ρ fp → ∀ a ∈ fp, F a = none ∧ ∃ o, H a = some o ∧ (∀ xs, o ≠ .tup xs) ∧ ∀ u v, o ≠ .frz u v
  | _, _, _, .nil, a, h => by cases h
  | _, _, _, .no r, a, h => r.loose a h
  | _, _, _, .sl o r _, a, h => by
    rcases List.mem_append.mp h with h | h
    · exact o.loose a h
    · exact r.loose a h
theorem Rel.keep (ef : Ex F F') : ∀ {σ : L2.St} {ρ : Env} {fp : List Addr}, Rel K F H σ ρ fp → (∀ a ∈ fp, H' a = H a ∧ F' a = none) → Rel K F' H' σ ρ fp
  | _, _, _, .nil, _ => .nil
  | _, _, _, .no r, q => .no (r.keep ef q)
  | _, _, _, .sl o r n, q => .sl (o.keep ef fun a h => q a (List.mem_append_left _ h)) (r.keep ef fun a h => q a (List.mem_append_right _ h)) n
theorem Rel.stp {σ : L2.St} {ρ : Env} {fp : List Addr} (h : Rel K F H σ ρ fp) (st : Stp F H F' H') : Rel K F' H' σ ρ fp := h.keep st.ff fun a ha => by
  obtain ⟨h1, o, h2, _⟩ := h.loose a ha
  exact ⟨by rw [h2]; exact st.hh a o h2, st.lse h1 (by rw [h2]; exact fun z => nomatch z)⟩
theorem Rel.set {k : Nat} {v : V} {d : D} {fq : List Addr} (o : Own K F H k v d fq) : ∀ {σ : L2.St} {ρ : Env} {fp : List Addr} (i : Nat), Rel K F H σ ρ fp → (∀ a ∈ fq, a ∉ fp) → ∃ fp', Rel K F H (σ.set i (some v)) (ρ.set i (some (k, d))) fp' ∧ ∀ a ∈ fp', a ∈ fq ∨ a ∈ fp
  | _, _, _, _, .nil, _ => ⟨[], .nil, fun a h => by cases h⟩
  | _, _, _, 0, .no r, n => ⟨_, .sl o r n, fun a h => List.mem_append.mp h⟩
  | _, _, _, 0, .sl o' r n', n => ⟨_, .sl o r (fun a ha z => n a ha (List.mem_append_right _ z)), fun a h => (List.mem_append.mp h).imp id fun z => List.mem_append_right _ z⟩
  | _, _, _, i + 1, .no r, n => by
    obtain ⟨fp', h1, h2⟩ := Rel.set o i r n
    exact ⟨fp', .no h1, h2⟩
  | _, _, _, i + 1, .sl (fq := fr) o' r n', n => by
    obtain ⟨fp', h1, h2⟩ := Rel.set o i r fun a ha z => n a ha (List.mem_append_right _ z)
    refine ⟨fr ++ fp', .sl o' h1 fun a ha z => ?_, fun a h => ?_⟩
    · rcases h2 a z with w | w
      · exact n a w (List.mem_append_left _ ha)
      · exact n' a ha w
    · rcases List.mem_append.mp h with h | h
      · exact .inr (List.mem_append_left _ h)
      · exact (h2 a h).imp id fun z => List.mem_append_right _ z
/-- a slot's object is written: the others stay -/
theorem Rel.upd_slot {k k' : Nat} {d d' : D} : ∀ {σ : L2.St} {ρ : Env} {fp : List Addr} {i : Nat}, Rel K F H σ ρ fp → ρ[i]? = some (some (k, d)) → Ex F F' →
    (∀ v fq, σ[i]? = some (some v) → Own K F H k v d fq → (∀ a ∈ fq, a ∈ fp) → ∃ fq', Own K F' H' k' v d' fq' ∧ (∀ a ∈ fq', a ∈ fq) ∧ ∀ a ∈ fp, a ∉ fq → H' a = H a ∧ F' a = none) →
    ∃ fp', Rel K F' H' σ (ρ.set i (some (k', d'))) fp' ∧ ∀ a ∈ fp', a ∈ fp
  | _, _, _, _, .nil, e, _, _ => by simp at e
  | _, _, _, 0, .no _, e, _, _ => by simp at e
  | _, _, _, 0, .sl (fq := fr) (fp := fp) o r n, e, ef, q => by
    simp at e
    obtain ⟨rfl, rfl⟩ := e
    obtain ⟨fq', h1, h2, h3⟩ := q _ _ rfl o fun a ha => List.mem_append_left _ ha
    refine ⟨fq' ++ fp, .sl h1 (r.keep ef fun a ha => h3 a (List.mem_append_right _ ha) fun z => n a z ha) fun a ha => n a (h2 a ha), fun a h => ?_⟩
    rcases List.mem_append.mp h with h | h
    · exact List.mem_append_left _ (h2 a h)
    · exact List.mem_append_right _ h
  | _, _, _, i + 1, .no r, e, ef, q => by
    obtain ⟨fp', h1, h2⟩ := Rel.upd_slot (i := i) r (by simpa using e) ef fun v fq hv => q v fq (by simpa using hv)
    exact ⟨fp', .no h1, h2⟩
  | _, _, _, i + 1, .sl (fq := fr) (fp := fp) o r n, e, ef, q => by
    obtain ⟨v, fq, hv, ho, hin⟩ := r.get (i := i) (by simpa using e)
    have keepO : ∀ a ∈ fr, H' a = H a ∧ F' a = none := fun a ha => by
      obtain ⟨_, _, _, h3⟩ := q v fq (by simpa using hv) ho fun b hb => List.mem_append_right _ (hin b hb)
      exact h3 a (List.mem_append_left _ ha) fun z => n a ha (hin a z)
    obtain ⟨fp', h1, h2⟩ := Rel.upd_slot (i := i) r (by simpa using e) ef fun v' fq' hv' ho' hin' => by
      obtain ⟨fq'', g1, g2, g3⟩ := q v' fq' (by simpa using hv') ho' fun b hb => List.mem_append_right _ (hin' b hb)
      exact ⟨fq'', g1, g2, fun a ha hn => g3 a (List.mem_append_right _ ha) hn⟩
    refine ⟨fr ++ fp', .sl (o.keep ef keepO) h1 fun a ha z => n a ha (h2 a z), fun a h => ?_⟩
    rcases List.mem_append.mp h with h | h
    · exact List.mem_append_left _ h
    · exact List.mem_append_right _ (h2 a h)
end
/-! ### reading a body's slots -/
def expose (m : List Nat) : Nat → Env → Ro
  | _, [] => []
  | i, none :: ρ => none :: expose m (i + 1) ρ
  | i, some (k, d) :: ρ => (if k = 0 ∨ i ∈ m then some d else none) :: expose m (i + 1) ρ
def freeze (m : List Nat) : Nat → Env → Env
  | _, [] => []
  | i, none :: ρ => none :: freeze m (i + 1) ρ
  | i, some (k, d) :: ρ => (if i ∈ m then some (0, d) else some (k, d)) :: freeze m (i + 1) ρ
def nosh : Nat → D → Bool
  | 0, d => imm d
  | k + 1, .lst ds => ds.all (nosh k)
  | k + 1, .dic kvs => kvs.all fun p => nosh k p.2
  | k + 1, .dicT kvs => kvs.all fun p => nosh k p.2
  | _ + 1, d => imm d
def hide (F : Hp) (S : List Addr) : Hp := fun a => if a ∈ S then none else F a
theorem hide_in {F : Hp} {S : List Addr} {a : Addr} (h : a ∈ S) : hide F S a = none := if_pos h
theorem hide_out {F : Hp} {S : List Addr} {a : Addr} (h : a ∉ S) : hide F S a = F a := if_neg h
section
variable {K : PySem.W.Frag} {F H : Hp} {S : List Addr}
theorem hide_rd {a : Addr} {xs : List V} (hS : ∀ a ∈ S, ∃ o, F a = some o ∧ (∀ xs, o ≠ .tup xs) ∧ ∀ u v, o ≠ .frz u v) (h : Rd F a (.tup xs)) : Rd (hide F S) a (.tup xs) := by
  by_cases z : a ∈ S
  · obtain ⟨o, h1, h2, h3⟩ := hS a z
    rcases h with h | ⟨u, h⟩
    · rw [h1] at h; cases h; exact absurd rfl (h2 _)
    · rw [h1] at h; cases h; exact absurd rfl (h3 _ _)
  · rcases h with h | ⟨u, h⟩
    · exact .inl (by rw [hide_out z]; exact h)
    · exact .inr ⟨u, by rw [hide_out z]; exact h⟩
mutual
theorem Dat.hide (hS : ∀ a ∈ S, ∃ o, F a = some o ∧ (∀ xs, o ≠ .tup xs) ∧ ∀ u v, o ≠ .frz u v) : ∀ {v : V} {d : D}, Dat K F v d → imm d = true → Dat K (PV.hide F S) v d
  | _, _, .non, _ => .non
  | _, _, .bl b, _ => .bl b
  | _, _, .int i, _ => .int i
  | _, _, .str x, _ => .str x
  | _, _, .lst _ _ _, i => by simp [imm] at i
  | _, _, .tup h1 h2 h3, i => by
    refine .tup ?_ (Dats.hide hS h2 (by simpa [imm] using i)) h3
    rcases hide_rd hS (.of h1) with h | ⟨u, h⟩
    · exact h
    · unfold PV.hide at h
      split at h
      · cases h
      · rw [h1] at h; cases h
  | _, _, .rot (.inl h1) h2 h3, i => .rot (.inl (hide_rd hS h1)) (Dats.hide hS h2 (by simpa [imm] using i)) h3
  | _, _, .rot (.inr h1) h2 h3, i => .rot (.inr h1) (Dats.hide hS h2 (by simpa [imm] using i)) h3
  | _, _, .rol _ _, i => by simp [imm] at i
  | _, _, .dic _ _ _ _, i => by simp [imm] at i
  | _, _, .dicT _ _ _ _, i => by simp [imm] at i
theorem Dats.hide (hS : ∀ a ∈ S, ∃ o, F a = some o ∧ (∀ xs, o ≠ .tup xs) ∧ ∀ u v, o ≠ .frz u v) : ∀ {vs : List V} {ds : List D}, Dats K F vs ds → imms ds = true → Dats K (PV.hide F S) vs ds
  | _, _, .nil, _ => .nil
  | _, _, .cons h t, i => by
    simp only [imms, Bool.and_eq_true] at i
    exact .cons (Dat.hide hS h i.1) (Dats.hide hS t i.2)
end
theorem nosh_snd {κ : Type} {k : Nat} : ∀ {kvs : List (κ × D)}, (kvs.all fun p => nosh k p.2) = true → (kvs.map (·.2)).all (nosh k) = true := fun {kvs} h => by rw [List.all_map]; exact h
theorem hide_none {a : Addr} (h : F a = none) : hide F S a = none := by unfold PV.hide; split <;> first | rfl | exact h
mutual
theorem Own.hide (hS : ∀ a ∈ S, ∃ o, F a = some o ∧ (∀ xs, o ≠ .tup xs) ∧ ∀ u v, o ≠ .frz u v) : ∀ {k : Nat} {v : V} {d : D} {fp : List Addr}, Own K F H k v d fp → nosh k d = true → Own K (PV.hide F S) H k v d fp
  | 0, _, _, _, .frz h, n => .frz (h.hide hS n)
  | k, _, _, _, .sc i h, _ => .sc i (h.hide hS i)
  | k + 1, _, _, _, .lst h1 h2 h3 h4 h5, n => .lst h1 (hide_none h2) (Owns.hide hS h3 (by simpa [nosh] using n)) h4 h5
  | k + 1, _, _, _, .dic h1 h2 e h3 h4 h5, n => .dic h1 (hide_none h2) e (Owns.hide hS h3 (nosh_snd (by simpa [nosh] using n))) h4 h5
  | k + 1, _, _, _, .dicT h1 h2 e h3 h4 h5, n => .dicT h1 (hide_none h2) e (Owns.hide hS h3 (nosh_snd (by simpa [nosh] using n))) h4 h5
theorem Owns.hide (hS : ∀ a ∈ S, ∃ o, F a = some o ∧ (∀ xs, o ≠ .tup xs) ∧ ∀ u v, o ≠ .frz u v) : ∀ {k : Nat} {vs : List V} {ds : List D} {fp : List Addr}, Owns K F H k vs ds fp → ds.all (nosh k) = true → Owns K (PV.hide F S) H k vs ds fp
  | _, _, _, _, .nil, _ => .nil
  | k, _, _, _, .cons h1 h2 h3, n => by
    rw [List.all_cons, Bool.and_eq_true] at n
    exact .cons (Own.hide hS h1 n.1) (Owns.hide hS h2 n.2) h3
end
end

section
variable {K : PySem.W.Frag} {F H : Hp}
theorem own_zero {v : V} {d : D} {fp : List Addr} (h : Own K F H 0 v d fp) : Dat K F v d ∧ fp = [] := by
  cases h with
  | frz h => exact ⟨h, rfl⟩
  | sc _ h => exact ⟨h, rfl⟩
theorem Rel.split (m : List Nat) : ∀ (i0 : Nat) {σ : L2.St} {ρ : Env} {fp : List Addr}, Rel K F H σ ρ fp → ∃ fm fo : List Addr, (∀ a ∈ fp, a ∈ fm ∨ a ∈ fo) ∧ (∀ a ∈ fm, a ∈ fp) ∧ (∀ a ∈ fo, a ∈ fp) ∧ (∀ a ∈ fm, a ∉ fo) ∧
    ∀ G, Ex F G → (∀ a ∈ fm, G a = H a) → (∀ a ∈ fo, G a = none) → Rel K G H σ (freeze m i0 ρ) fo ∧ (expose m i0 ρ).length = ρ.length ∧ ∀ (i : Nat) d, (expose m i0 ρ)[i]? = some (some d) → ∃ v, σ[i]? = some (some v) ∧ Dat K G v d
  | _, _, _, _, .nil => ⟨[], [], (fun _ h => nomatch h), (fun _ h => nomatch h), (fun _ h => nomatch h), (fun _ h => nomatch h), fun G _ _ _ => ⟨.nil, rfl, fun i d h => by simp [expose] at h⟩⟩
  | i0, _, _, _, .no r => by
    obtain ⟨fm, fo, h1, h2, h3, h4, h5⟩ := r.split m (i0 + 1)
    refine ⟨fm, fo, h1, h2, h3, h4, fun G e a b => ?_⟩
    obtain ⟨g1, g2, g3⟩ := h5 G e a b
    refine ⟨.no g1, by simp [expose, g2], fun i d h => ?_⟩
    cases i with
    | zero => simp [expose] at h
    | succ i => exact g3 i d (by simpa [expose] using h)
  | i0, _, _, _, .sl (k := k) (v := v) (d := d) (fq := fq) o r n => by
    obtain ⟨fm, fo, h1, h2, h3, h4, h5⟩ := r.split m (i0 + 1)
    by_cases hm : i0 ∈ m
    · refine ⟨fq ++ fm, fo, fun a ha => ?_, fun a ha => ?_, fun a ha => List.mem_append_right _ (h3 a ha), fun a ha => ?_, fun G e a b => ?_⟩
      · rcases List.mem_append.mp ha with h | h
        · exact .inl (List.mem_append_left _ h)
        · exact (h1 a h).imp (fun z => List.mem_append_right _ z) id
      · rcases List.mem_append.mp ha with h | h
        · exact List.mem_append_left _ h
        · exact List.mem_append_right _ (h2 a h)
      · rcases List.mem_append.mp ha with h | h
        · exact fun z => n a h (h3 a z)
        · exact h4 a h
      · obtain ⟨g1, g2, g3⟩ := h5 G e (fun x hx => a x (List.mem_append_right _ hx)) b
        have dd : Dat K G v d := o.dat e fun x hx => a x (List.mem_append_left _ hx)
        refine ⟨?_, by simp [expose, g2], fun i d' h => ?_⟩
        · have z : Rel K G H _ (some (0, d) :: freeze m (i0 + 1) _) ([] ++ fo) := Rel.sl (.frz dd) g1 (fun _ hx => nomatch hx)
          simpa [freeze, hm] using z
        · cases i with
          | zero =>
            simp [expose, hm] at h
            subst h
            exact ⟨v, rfl, dd⟩
          | succ i => exact g3 i d' (by simpa [expose] using h)
    · refine ⟨fm, fq ++ fo, fun a ha => ?_, fun a ha => List.mem_append_right _ (h2 a ha), fun a ha => ?_, fun a ha z => ?_, fun G e a b => ?_⟩
      · rcases List.mem_append.mp ha with h | h
        · exact .inr (List.mem_append_left _ h)
        · exact (h1 a h).imp id fun z => List.mem_append_right _ z
      · rcases List.mem_append.mp ha with h | h
        · exact List.mem_append_left _ h
        · exact List.mem_append_right _ (h3 a h)
      · rcases List.mem_append.mp z with h | h
        · exact n a h (h2 a ha)
        · exact h4 a ha h
      · obtain ⟨g1, g2, g3⟩ := h5 G e a fun x hx => b x (List.mem_append_right _ hx)
        refine ⟨?_, by simp [expose, g2], fun i d' h => ?_⟩
        · have z : Rel K G H _ (some (k, d) :: freeze m (i0 + 1) _) (fq ++ fo) := Rel.sl (o.keep e fun x hx => ⟨rfl, b x (List.mem_append_left _ hx)⟩) g1 (fun x hx z => n x hx (h3 x z))
          simpa [freeze, hm] using z
        · cases i with
          | zero =>
            simp only [expose, List.getElem?_cons_zero, Option.some.injEq] at h
            split at h
            · rename_i hk
              cases h
              have hk : k = 0 := hk.resolve_right hm
              subst hk
              exact ⟨v, rfl, (own_zero o).1.mono e⟩
            · cases h
          | succ i => exact g3 i d' (by simpa [expose] using h)
end
/-! ### evaluation within a body -/
def fv : Exp → List Nat
  | .var i => [i]
  | .bin _ a b => fv a ++ fv b
  | .neg a => fv a
  | .nt a => fv a
  | .and_ a b => fv a ++ fv b
  | .or_ a b => fv a ++ fv b
  | .cmp _ a b => fv a ++ fv b
  | .chain _ _ a b c => fv a ++ fv b ++ fv c
  | .ife a b c => fv a ++ fv b ++ fv c
  | .call _ a _ b => fv a ++ fv b
  | .blt _ a => fv a
  | .index a b => fv a ++ fv b
  | .idx a b => fv a ++ fv b
  | .slc a b c => fv a ++ fv b ++ fv c
  | .lst a => fv a
  | .tup a => fv a
  | .dpair a b => fv a ++ fv b
  | .lc _ _ a b c => fv a ++ fv b ++ fv c
  | .dc _ _ a b c e => fv a ++ fv b ++ fv c ++ fv e
  | .rng a => fv a
  | .enm a => fv a
  | .zp a b => fv a ++ fv b
  | .itr a => fv a
  | .itn a => fv a
  | .cons a b => fv a ++ fv b
  | _ => []
/-- a body's state: F0, H0 at its entry -/
structure SI (K : PySem.W.Frag) (F0 H0 F H : Hp) (σ : L2.St) (ρ : Env) (fp : List Addr) : Prop where
  st : Stp F0 H0 F H
  rel : Rel K F H σ ρ fp
  fr : ∀ a ∈ fp, H0 a = none
section
variable {K : PySem.W.Frag} {F0 H0 F H : Hp} {σ : L2.St} {ρ : Env} {fp : List Addr} {W : TE} {k : Nat} {d : D} {m : List Nat}
/-- what a body's evaluation hands on -/
def Got (K : PySem.W.Frag) (F0 H0 : Hp) (σ : L2.St) (ρ : Env) (k : Nat) (d : D) (Q : VK) : Prop :=
  ∀ v F' H' fp' fq, SI K F0 H0 F' H' σ ρ fp' → Own K F' H' k v d fq → (∀ a ∈ fq, a ∉ fp') → (∀ a ∈ fq, H0 a = none) → Q v H'
theorem si_split (si : SI K F0 H0 F H σ ρ fp) (m : List Nat) : ∃ G fo, SI K F0 H0 G H σ (freeze m 0 ρ) fo ∧ Ex F G ∧ SlotR K G σ (expose m 0 ρ) ∧
    (∀ F2 H2, Stp G H F2 H2 → ∃ F3 S, SI K F0 H0 F3 H2 σ ρ fp ∧ F3 = hide F2 S ∧ (∀ a ∈ S, a ∈ fp) ∧ ∀ a ∈ S, ∃ o, F2 a = some o ∧ (∀ xs, o ≠ .tup xs) ∧ ∀ u v, o ≠ .frz u v) := by
  obtain ⟨fm, fo, h1, h2, h3, h4, h5⟩ := si.rel.split m 0
  have hl : ∀ a ∈ fm, F a = none := fun a ha => (si.rel.loose a (h2 a ha)).1
  obtain ⟨g1, g2, g3⟩ := h5 (frzAt F H fm) (frzAt_ex hl) (fun a ha => frzAt_in ha) (fun a ha => by rw [frzAt_out fun z => h4 a z ha]; exact (si.rel.loose a (h3 a ha)).1)
  refine ⟨frzAt F H fm, fo, ⟨⟨si.st.ff.trans (frzAt_ex hl), si.st.hh, frzAt_sub si.st.fh, fun a q => ?_⟩, g1, fun a ha => si.fr a (h3 a ha)⟩, frzAt_ex hl, ⟨by rw [g2]; exact si.rel.len, g3⟩, fun F2 H2 s2 => ?_⟩
  · by_cases z : a ∈ fm
    · exact .inr (si.fr a (h2 a z))
    · rw [frzAt_out z] at q; exact si.st.nw a q
  · have heq : ∀ a ∈ fp, H2 a = H a := fun a ha => by
      obtain ⟨_, o, ho, _⟩ := si.rel.loose a ha
      rw [ho]; exact s2.hh _ _ ho
    have exF : Ex F (hide F2 fm) := fun a o e => by
      have z : a ∉ fm := fun z => by rw [hl a z] at e; cases e
      rw [hide_out z]
      exact s2.ff _ _ (by rw [frzAt_out z]; exact e)
    refine ⟨hide F2 fm, fm, ⟨⟨si.st.ff.trans exF, si.st.hh.trans s2.hh, fun a o e => ?_, fun a q => ?_⟩, si.rel.keep exF fun a ha => ⟨heq a ha, ?_⟩, si.fr⟩, rfl, h2, fun a ha => ?_⟩
    · unfold hide at e
      split at e
      · cases e
      · exact s2.fh _ _ e
    · unfold hide at q
      split at q
      · exact absurd rfl q
      · rename_i z
        rcases s2.nw a q with w | w
        · rw [frzAt_out z] at w; exact si.st.nw a w
        · exact .inr (si.st.hh.free w)
    · by_cases z : a ∈ fm
      · exact hide_in z
      · rw [hide_out z]
        obtain ⟨l1, o, l2, _⟩ := si.rel.loose a ha
        exact s2.lse (by rw [frzAt_out z]; exact l1) (by rw [l2]; exact fun z => nomatch z)
    · obtain ⟨_, o, l2, l3⟩ := si.rel.loose a (h2 a ha)
      exact ⟨o, s2.ff _ _ (by rw [frzAt_in ha]; exact l2), l3⟩
theorem evS_ok (si : SI K F0 H0 F H σ ρ fp) (hE : ∀ G, SlotR K G σ (expose m 0 ρ) → EvDW K W σ G k d) {Q : VK} (q : Got K F0 H0 σ (if nosh k d = true then ρ else freeze m 0 ρ) k d Q) : W σ H Q := by
  obtain ⟨G, fo, s1, eg, sr, s2⟩ := si_split si m
  refine hE G sr G H (.refl _) s1.st.fh Q fun v F2 H2 fq st o fr => ?_
  have nin : ∀ {fp' : List Addr} {ρ' : Env} {G' : Hp}, Rel K G' H σ ρ' fp' → ∀ a ∈ fq, a ∉ fp' := fun r a ha z => by
    obtain ⟨_, o, ho, _⟩ := r.loose a z
    rw [fr a ha] at ho; cases ho
  cases hn : nosh k d with
  | true =>
    rw [if_pos hn] at q
    obtain ⟨F3, S, s3, rfl, hS, hK⟩ := s2 F2 H2 st
    exact q v _ H2 fp fq s3 (o.hide hK hn) (nin si.rel) fun a ha => si.st.hh.free (fr a ha)
  | false =>
    rw [if_neg (by rw [hn]; exact Bool.false_ne_true)] at q
    exact q v F2 H2 fo fq ⟨s1.st.trans st, s1.rel.stp st, s1.fr⟩ o (nin s1.rel) fun a ha => si.st.hh.free (fr a ha)
end
end PV

set_option Elab.async false
set_option linter.all false
set_option maxRecDepth 100000
set_option maxHeartbeats 2000000
/-! PV, part Q: statements, their meaning; bodies' states. -/
namespace PV
open PySem PySem.Spec PyProof.Rows L2

inductive Sta where
  | set (i : Nat) (e : Exp)
  | unp (is : List Nat) (e : Exp)
  | par (i j : Nat) (a b : Exp)
  | app (i : Nat) (e : Exp) | ext (i : Nat) (e : Exp)
  | seti (i : Nat) (k e : Exp)
  | popd (i : Nat) (k : Exp) | popx (j i : Nat) (k : Exp)
  | ite (c : Exp) (a b : Sta)
  | for_ (tg : Tg) (it : Exp) (b : Sta)
  | whl (c : Exp) (b : Sta)
  | ret (e : Exp) | retv (i : Nat) | retn | pass | brk | cnt | bad
  | nil | cons (a b : Sta)
  deriving DecidableEq
inductive Out where
  | nx (ρ : Env) | rt (k : Nat) (d : D) | br (ρ : Env) | ct (ρ : Env)

def asgEs : List Nat → List D → Env → Env
  | i :: is, d :: ds, ρ => asgEs is ds (ρ.set i (some (0, d)))
  | _, _, ρ => ρ
def asgE : Tg → D → Env → Option Env
  | .one i, d, ρ => some (ρ.set i (some (0, d)))
  | .many is, .tup ds, ρ => if ds.length = is.length then some (asgEs is ds ρ) else none
  | .many _, _, _ => none
/-- x[k] = v of an owned container -/
def putAt : D → D → D → Option D
  | .dic kvs, k, v => match keyOf k with
    | some k => if kvs.length < cap then some (.dic (putD kvs k v)) else none
    | none => none
  | .dicT kvs, .tup ks, v => match keysOf ks with
    | some k => if kvs.length < cap then some (.dicT (putD kvs k v)) else none
    | none => none
  | .lst xs, .int i, v => match ixN xs.length i with
    | some j => some (.lst (xs.set j v))
    | none => none
  | _, _, _ => none
def popAt : D → D → Option (D × D)
  | .dic kvs, k => match keyOf k with
    | some k => match valD kvs k with
      | some v => some (v, .dic (dropD kvs k))
      | none => none
    | none => none
  | _, _ => none
def forL (tg : Tg) (f : Env → Option Out) : List D → Env → Option Out
  | [], ρ => some (.nx ρ)
  | d :: ds, ρ => match asgE tg d ρ with
    | none => none
    | some ρ1 => match f ρ1 with
      | some (.nx ρ2) => forL tg f ds ρ2
      | some (.ct ρ2) => forL tg f ds ρ2
      | some (.br ρ2) => some (.nx ρ2)
      | some (.rt k d) => some (.rt k d)
      | none => none
def whlL (c : Env → Option Bool) (f : Env → Option Out) : Nat → Env → Option Out
  | 0, _ => none
  | n + 1, ρ => match c ρ with
    | some true => match f ρ with
      | some (.nx ρ2) => whlL c f n ρ2
      | some (.ct ρ2) => whlL c f n ρ2
      | some (.br ρ2) => some (.nx ρ2)
      | some (.rt k d) => some (.rt k d)
      | none => none
    | some false => some (.nx ρ)
    | none => none
section
variable (C : Str → List D → List Str → List D → Option (Nat × D)) (G : Str → Option D) (w : Nat)
def evS (e : Exp) (ρ : Env) : Option (Nat × D × Env) := match ev C G e (expose (fv e) 0 ρ) with
  | some (k, d) => some (k, d, if nosh k d = true then ρ else freeze (fv e) 0 ρ)
  | none => none
def evB (e : Exp) (ρ : Env) : Option Bool := match ev C G e (expose (fv e) 0 ρ) with
  | some (_, .bl b) => some b
  | _ => none
def evW (e : Exp) (ρ : Env) : Option (List D × Env) := if isDicE C G e (expose (fv e) 0 ρ) = true then none else match evI C G e (expose (fv e) 0 ρ) with
  | some ds => some (ds, freeze (fv e) 0 ρ)
  | none => none
def exec : Sta → Env → Option Out
  | .set i e, ρ => match evS C G e ρ with
    | some (k, d, ρ') => some (.nx (ρ'.set i (some (k, d))))
    | none => none
  | .unp is e, ρ => match evS C G e ρ with
    | some (_, .tup ds, ρ') => if ds.length = is.length then some (.nx (asgEs is ds ρ')) else none
    | _ => none
  | .par i j a b, ρ => match evS C G a ρ with
    | some (_, d, ρ1) => match evS C G b ρ1 with
      | some (_, e, ρ2) => some (.nx ((ρ2.set i (some (0, d))).set j (some (0, e))))
      | none => none
    | none => none
  | .app i e, ρ => match ρ[i]? with
    | some (some (1, .lst _)) => match evS C G e ρ with
      | some (_, d, ρ') => match ρ'[i]? with
        | some (some (1, .lst xs)) => if xs.length < cap then some (.nx (ρ'.set i (some (1, .lst (xs ++ [d]))))) else none
        | _ => none
      | none => none
    | _ => none
  | .ext i e, ρ => match ρ[i]? with
    | some (some (1, .lst _)) => match evS C G e ρ with
      | some (_, .lst ys, ρ') => match ρ'[i]? with
        | some (some (1, .lst xs)) => if xs.length + ys.length ≤ cap then some (.nx (ρ'.set i (some (1, .lst (xs ++ ys))))) else none
        | _ => none
      | _ => none
    | _ => none
  | .seti i k e, ρ => match evS C G e ρ with
    | some (_, v, ρ1) => match evS C G k ρ1 with
      | some (_, y, ρ2) => match ρ2[i]? with
        | some (some (1, d)) => match putAt d y v with
          | some d' => some (.nx (ρ2.set i (some (1, d'))))
          | none => none
        | _ => none
      | none => none
    | none => none
  | .popd i k, ρ => match ρ[i]? with
    | some (some (1, .dic _)) => match evS C G k ρ with
      | some (_, y, ρ1) => match ρ1[i]? with
        | some (some (1, d)) => match popAt d y with
          | some (_, d') => some (.nx (ρ1.set i (some (1, d'))))
          | none => none
        | _ => none
      | none => none
    | _ => none
  | .popx j i k, ρ => match ρ[i]? with
    | some (some (1, .dic _)) => match evS C G k ρ with
      | some (_, y, ρ1) => match ρ1[i]? with
        | some (some (1, d)) => match popAt d y with
          | some (v, d') => some (.nx ((ρ1.set i (some (1, d'))).set j (some (0, v))))
          | none => none
        | _ => none
      | none => none
    | _ => none
  | .ite c a b, ρ => match evB C G c ρ with
    | some true => exec a ρ
    | some false => exec b ρ
    | none => none
  | .for_ tg it b, ρ => match evW C G it ρ with
    | some (ds, ρ') => forL tg (fun r => exec b r) ds ρ'
    | none => none
  | .whl c b, ρ => whlL (fun r => evB C G c r) (fun r => exec b r) w ρ
  | .ret e, ρ => match evS C G e ρ with
    | some (k, d, _) => some (.rt k d)
    | none => none
  | .retv i, ρ => match ρ[i]? with
    | some (some (k, d)) => some (.rt k d)
    | _ => none
  | .retn, _ => some (.rt 0 .non)
  | .pass, ρ => some (.nx ρ)
  | .brk, ρ => some (.br ρ)
  | .cnt, ρ => some (.ct ρ)
  | .bad, _ => none
  | .nil, ρ => some (.nx ρ)
  | .cons a b, ρ => match exec a ρ with
    | some (.nx ρ') => exec b ρ'
    | some o => some o
    | none => none
end

/-! ### states -/
section
variable {K : PySem.W.Frag} {F0 H0 F H : Hp} {σ : L2.St} {ρ : Env} {fp : List Addr}
def mix (F H : Hp) : Hp := fun a => match F a with
  | some o => some o
  | none => H a
theorem mix_l {a : Addr} {o : HO} (h : F a = some o) : mix F H a = some o := by unfold mix; rw [h]
theorem mix_r {a : Addr} (h : F a = none) : mix F H a = H a := by unfold mix; rw [h]
/-- the frozen heap as it stands becomes the entry's -/
theorem SI.rebase (si : SI K F0 H0 F H σ ρ fp) : SI K F (mix F H0) F H σ ρ fp :=
  ⟨⟨.refl _, fun a o e => by
    cases q : F a with
    | some u => rw [mix_l q] at e; cases e; exact si.st.fh _ _ q
    | none => rw [mix_r q] at e; exact si.st.hh _ _ e, si.st.fh, fun a h => .inl h⟩, si.rel, fun a ha => by rw [mix_r (si.rel.loose a ha).1]; exact si.fr a ha⟩
theorem Stp.back {F' H' : Hp} (st : Stp F0 H0 F H) (s2 : Stp F (mix F H0) F' H') : Stp F0 H0 F' H' :=
  ⟨st.ff.trans s2.ff, fun a o e => by
    have hH : H a = some o := st.hh _ _ e
    cases q : F a with
    | some u =>
      have : H a = some u := st.fh _ _ q
      rw [hH] at this; cases this
      exact s2.hh _ _ (mix_l q)
    | none => exact s2.hh _ _ (by rw [mix_r q]; exact e), s2.fh, fun a h => by
    rcases s2.nw a h with z | z
    · exact st.nw a z
    · cases q : F a with
      | some u => rw [mix_l q] at z; cases z
      | none => rw [mix_r q] at z; exact .inr z⟩
theorem fr_back {a : Addr} (h : mix F H0 a = none) : H0 a = none := by
  cases q : F a with
  | some u => rw [mix_l q] at h; cases h
  | none => rw [mix_r q] at h; exact h
theorem SI.back {F' H' : Hp} {σ' : L2.St} {ρ' : Env} {fp' : List Addr} (st : Stp F0 H0 F H) (si : SI K F (mix F H0) F' H' σ' ρ' fp') : SI K F0 H0 F' H' σ' ρ' fp' := ⟨st.back si.st, si.rel, fun a ha => fr_back (si.fr a ha)⟩
/-- a value at hand is frozen -/
theorem SI.fix {k : Nat} {v : V} {d : D} {fq : List Addr} (si : SI K F0 H0 F H σ ρ fp) (o : Own K F H k v d fq) (nin : ∀ a ∈ fq, a ∉ fp) (fr : ∀ a ∈ fq, H0 a = none) : ∃ F', Ex F F' ∧ SI K F0 H0 F' H σ ρ fp ∧ Dat K F' v d := by
  have hl : ∀ a ∈ fq, F a = none := fun a ha => (o.loose a ha).1
  refine ⟨frzAt F H fq, frzAt_ex hl, ⟨⟨si.st.ff.trans (frzAt_ex hl), si.st.hh, frzAt_sub si.st.fh, fun a q => ?_⟩, si.rel.keep (frzAt_ex hl) fun a ha => ⟨rfl, ?_⟩, si.fr⟩, o.dat (frzAt_ex hl) fun a ha => frzAt_in ha⟩
  · by_cases z : a ∈ fq
    · exact .inr (fr a z)
    · rw [frzAt_out z] at q; exact si.st.nw a q
  · rw [frzAt_out fun z => nin a z ha]
    exact (si.rel.loose a ha).1
theorem SI.put {k : Nat} {v : V} {d : D} {fq : List Addr} (si : SI K F0 H0 F H σ ρ fp) (i : Nat) (o : Own K F H k v d fq) (nin : ∀ a ∈ fq, a ∉ fp) (fr : ∀ a ∈ fq, H0 a = none) : ∃ fp', SI K F0 H0 F H (σ.set i (some v)) (ρ.set i (some (k, d))) fp' := by
  obtain ⟨fp', h1, h2⟩ := si.rel.set o i nin
  exact ⟨fp', si.st, h1, fun a ha => (h2 a ha).elim (fr a) (si.fr a)⟩
theorem SI.put0 {v : V} {d : D} (si : SI K F0 H0 F H σ ρ fp) (i : Nat) (h : Dat K F v d) : ∃ fp', SI K F0 H0 F H (σ.set i (some v)) (ρ.set i (some (0, d))) fp' := si.put i (.frz h) (by simp) (by simp)
theorem SI.puts : ∀ {is : List Nat} {vs : List V} {ds : List D} {σ : L2.St} {ρ : Env} {fp : List Addr} {Q : L2.St → Hp → Prop}, SI K F0 H0 F H σ ρ fp → Dats K F vs ds → ds.length = is.length → (∀ σ' fp', SI K F0 H0 F H σ' (asgEs is ds ρ) fp' → Q σ' H) → gMany K is vs σ H Q
  | [], vs, ds, σ, ρ, fp, Q, si, hd, hl, q => by
    have : ds = [] := List.eq_nil_of_length_eq_zero hl
    subst this
    cases hd
    exact ⟨rfl, q σ fp si⟩
  | i :: is, vs, ds, σ, ρ, fp, Q, si, hd, hl, q => by
    cases hd with
    | nil => cases hl
    | cons h1 h2 =>
      obtain ⟨fp', s'⟩ := si.put0 i h1
      exact ⟨_, _, rfl, SI.puts s' h2 (by simpa using hl) q⟩
theorem asgE_ok {tg : Tg} {v : V} {d : D} {ρ' : Env} {Q : L2.St → Hp → Prop} (si : SI K F0 H0 F H σ ρ fp) (hd : Dat K F v d) (h : asgE tg d ρ = some ρ') (q : ∀ σ' fp', SI K F0 H0 F H σ' ρ' fp' → Q σ' H) : gOf K tg v σ H Q := by
  cases tg with
  | one i =>
    cases h
    obtain ⟨fp', s'⟩ := si.put0 i hd
    exact q _ _ s'
  | many is =>
    cases hd <;> try (cases (show (none : Option Env) = some ρ' from h))
    rename_i a vs ds h1 h2 h3
    obtain ⟨hl, rfl⟩ := if_some (show (if ds.length = is.length then some (asgEs is ds ρ) else none) = some ρ' from h)
    exact ⟨a, vs, rfl, .of (si.st.fh _ _ h1), by rw [h2.length]; exact hl, si.puts h2 hl q⟩
theorem owns_nil : ∀ {vs : List V} {ds : List D} {fp : List Addr}, Owns K F H 0 vs ds fp → fp = [] ∧ Dats K F vs ds
  | _, _, _, .nil => ⟨rfl, .nil⟩
  | _, _, _, .cons h t _ => by
    obtain ⟨d, rfl⟩ := own_zero h
    obtain ⟨rfl, ds⟩ := owns_nil t
    exact ⟨rfl, .cons d ds⟩
/-- an owned object is written -/
theorem SI.write {i : Nat} {a : Addr} {d d' : D} {o : HO} {F' : Hp} (si : SI K F0 H0 F H σ ρ fp) (hi : ρ[i]? = some (some (1, d))) (hσ : σ[i]? = some (some (.ref a))) (ha : a ∈ fp) (hone : ∀ fq, Own K F H 1 (.ref a) d fq → fq = [a])
    (new : Own K F (upd H a o) 1 (.ref a) d' [a]) : ∃ fp', SI K F0 H0 F (upd H a o) σ (ρ.set i (some (1, d'))) fp' := by
  have ha0 : H0 a = none := si.fr a ha
  have haF : F a = none := (si.rel.loose a ha).1
  obtain ⟨fp', h1, h2⟩ := si.rel.upd_slot (F' := F) (H' := upd H a o) (k' := 1) (d' := d') hi (.refl _) fun v fq hv ho hin => by
    rw [hσ] at hv; cases hv
    have e := hone fq ho
    subst e
    refine ⟨[a], new, fun b hb => hb, fun b hb hn => ⟨upd_ne fun z => hn (by simp [z]), (si.rel.loose b hb).1⟩⟩
  exact ⟨fp', si.st.updD haF ha0, h1, fun b hb => si.fr b (h2 b hb)⟩
end
end PV

set_option Elab.async false
set_option linter.all false
set_option maxRecDepth 100000
set_option maxHeartbeats 2000000
/-! PV, part R: statements, rule by rule. -/
namespace PV
open PySem PySem.Spec PyProof.Rows L2
def EndOk (K : PySem.W.Frag) (F0 H0 : Hp) (D : Ends) : Out → Prop
  | .nx ρ => ∀ F H σ fp, SI K F0 H0 F H σ ρ fp → D.nx σ H
  | .rt k d => ∀ v F H fq, Stp F0 H0 F H → Own K F H k v d fq → (∀ a ∈ fq, H0 a = none) → D.rt v H
  | .br ρ => ∀ F H σ fp, SI K F0 H0 F H σ ρ fp → D.bk σ H
  | .ct ρ => ∀ F H σ fp, SI K F0 H0 F H σ ρ fp → D.ct σ H
def StOk (K : PySem.W.Frag) (W : TS) (f : Env → Option Out) : Prop := ∀ F0 H0 F H σ ρ fp out D, SI K F0 H0 F H σ ρ fp → f ρ = some out → EndOk K F0 H0 D out → W D σ H
/-- an evaluation within a body, by e -/
def BE (K : PySem.W.Frag) (W : TE) (e : Env → Option (Nat × D × Env)) : Prop := ∀ F0 H0 F H σ ρ fp k d ρ', SI K F0 H0 F H σ ρ fp → e ρ = some (k, d, ρ') → ∀ Q, Got K F0 H0 σ ρ' k d Q → W σ H Q
section
variable {X : Cx} {C : Str → List D → List Str → List D → Option (Nat × D)} {G : Str → Option D} {e : Expr} {E : Exp} {pos : Pos}
/-- what a statement x = e reads -/
def WU (X : Cx) (st : Stmt) (i : Nat) : TE := fun σ H Q => ∀ D : Ends, Q = (fun x H1 => D.nx (σ.set i (some x)) H1) → WS X st D σ H
theorem wu_lock {st : Stmt} {i : Nat} : Lockable (WU X st i) := fun σ H Q p kvs h q D hQ => by
  subst hQ
  exact ws_of (ps_lock ps_W) ⟨p, .dK kvs, h, True.intro, fun od => q od ⟨fun σ' H' => H' p = some (.frz od (.dK kvs)) ∧ D.nx σ' (upd H' p (.dK kvs)), fun v H' => H' p = some (.frz od (.dK kvs)) ∧ D.rt v (upd H' p (.dK kvs)), fun σ' H' => H' p = some (.frz od (.dK kvs)) ∧ D.bk σ' (upd H' p (.dK kvs)), fun σ' H' => H' p = some (.frz od (.dK kvs)) ∧ D.ct σ' (upd H' p (.dK kvs))⟩ rfl⟩
theorem be_of {W : TE} (h : ∀ σ F ρ k d, SlotR X.K F σ ρ → ev C G E ρ = some (k, d) → EvDW X.K W σ F k d) : BE X.K W (evS C G E) := fun F0 H0 F H σ ρ fp k d ρ' si he Q q => by
  unfold evS at he
  split at he
  · rename_i k' d' hev
    cases he
    exact evS_ok si (fun G' sr => h σ G' _ k d sr hev) q
  · cases he
theorem bt_ok {c : Expr} (h : ∀ σ F ρ b k, SlotR X.K F σ ρ → ev C G E ρ = some (k, .bl b) → EvT X c σ F b) {F0 H0 F H : Hp} {σ : L2.St} {ρ : Env} {fp : List Addr} {b : Bool} (si : SI X.K F0 H0 F H σ ρ fp) (he : evB C G E ρ = some b) {Q : Bool → Hp → Prop}
    (q : ∀ F' H', SI X.K F0 H0 F' H' σ ρ fp → Q b H') : WT X c σ H Q := by
  unfold evB at he
  split at he
  · rename_i k' b' hev
    cases he
    obtain ⟨G', fo, s1, eg, sr, s2⟩ := si_split si (fv E)
    refine h σ G' _ _ _ sr hev G' H (.refl _) s1.st.fh Q fun F2 H2 st => ?_
    obtain ⟨F3, S, s3, _, _, _⟩ := s2 F2 H2 st
    exact q F3 H2 s3
  · cases he

/-! ### x = e -/
theorem st_set {st : Stmt} {i : Nat} (h : BE X.K (WU X st i) (evS C G E)) : StOk X.K (WS X st) (fun ρ => match evS C G E ρ with | some (k, d, ρ') => some (.nx (ρ'.set i (some (k, d)))) | none => none) := fun F0 H0 F H σ ρ fp out D si hf hD => by
  dsimp only at hf
  split at hf
  · rename_i k d ρ' he
    cases hf
    refine h F0 H0 F H σ ρ fp k d ρ' si he (fun x H1 => D.nx (σ.set i (some x)) H1) (fun v F' H' fp' fq s' o n fr => ?_) D rfl
    obtain ⟨fp2, s2⟩ := s'.put i o n fr
    exact hD _ _ _ _ s2
  · cases hf
/-! ### return -/
theorem st_ret (h : BE X.K (WE X e) (evS C G E)) : StOk X.K (WS X (.Return (some e) pos)) (fun ρ => match evS C G E ρ with | some (k, d, _) => some (.rt k d) | none => none) := fun F0 H0 F H σ ρ fp out D si hf hD => by
  dsimp only at hf
  split at hf
  · rename_i k d ρ' he
    cases hf
    exact ws_of (ps_ret pe_W) (h F0 H0 F H σ ρ fp k d ρ' si he D.rt fun v F' H' fp' fq s' o n fr => hD v F' H' fq s'.st o fr)
  · cases hf
theorem st_retv {i : Nat} {n : Str} {p2 : Pos} (hN : X.N[i]? = some n) (hv : Vis X.env.scope n) (hd : (n == ("__debug__" : Str)) = false) (hcd : (n == ("__classdict__" : Str)) = false) : StOk X.K (WS X (.Return (some (.Name n p2)) pos)) (fun ρ => match ρ[i]? with | some (some (k, d)) => some (.rt k d) | _ => none) := fun F0 H0 F H σ ρ fp out D si hf hD => by
  dsimp only at hf
  split at hf
  · rename_i k d hi
    cases hf
    obtain ⟨v, fq, h1, h2, h3⟩ := si.rel.get hi
    exact ws_of (ps_ret (pe_var hN hv hd hcd)) ⟨v, h1, hD v F H fq si.st h2 fun a ha => si.fr a (h3 a ha)⟩
  · cases hf
theorem st_retn : StOk X.K (WS X (.Return none pos)) (fun _ => some (.rt 0 .non)) := fun F0 H0 F H σ ρ fp out D si hf hD => by
  cases hf
  exact ws_of ps_retN (hD .non F H [] si.st (.frz .non) (by simp))
theorem st_pass : StOk X.K (WS X (.Pass pos)) (fun ρ => some (.nx ρ)) := fun F0 H0 F H σ ρ fp out D si hf hD => by
  cases hf; exact ws_of ps_pass (hD _ _ _ _ si)
theorem st_brk : StOk X.K (WS X (.Break pos)) (fun ρ => some (.br ρ)) := fun F0 H0 F H σ ρ fp out D si hf hD => by
  cases hf; exact ws_of ps_break (hD _ _ _ _ si)
theorem st_cnt : StOk X.K (WS X (.Continue pos)) (fun ρ => some (.ct ρ)) := fun F0 H0 F H σ ρ fp out D si hf hD => by
  cases hf; exact ws_of ps_continue (hD _ _ _ _ si)
theorem st_nil : StOk X.K (WSs X []) (fun ρ => some (.nx ρ)) := fun F0 H0 F H σ ρ fp out D si hf hD => by
  cases hf; exact wss_of pss_nil (hD _ _ _ _ si)
theorem st_cons {st : Stmt} {rest : List Stmt} {f g : Env → Option Out} (h1 : StOk X.K (WS X st) f) (h2 : StOk X.K (WSs X rest) g) : StOk X.K (WSs X (st :: rest)) (fun ρ => match f ρ with | some (.nx ρ') => g ρ' | some o => some o | none => none) := fun F0 H0 F H σ ρ fp out D si hf hD => by
  dsimp only at hf
  refine wss_of (pss_cons ps_W pss_W) ?_
  split at hf
  · rename_i ρ' he
    exact h1 F0 H0 F H σ ρ fp _ _ si he fun F' H' σ' fp' s' => h2 F0 H0 F' H' σ' ρ' fp' out D s' hf hD
  · rename_i o hno he
    cases hf
    refine h1 F0 H0 F H σ ρ fp _ _ si he ?_
    cases out with
    | nx ρ' => exact absurd rfl (hno ρ')
    | rt k d => exact hD
    | br ρ' => exact hD
    | ct ρ' => exact hD
  · cases hf
theorem st_if {c : Expr} {a b : List Stmt} {f g : Env → Option Out} (hc : ∀ σ F ρ b k, SlotR X.K F σ ρ → ev C G E ρ = some (k, .bl b) → EvT X c σ F b) (ha : StOk X.K (WSs X a) f) (hb : StOk X.K (WSs X b) g) :
    StOk X.K (WS X (.If c a b pos)) (fun ρ => match evB C G E ρ with | some true => f ρ | some false => g ρ | none => none) := fun F0 H0 F H σ ρ fp out D si hf hD => by
  dsimp only at hf
  refine ws_of (ps_if pt_W pss_W pss_W) ?_
  split at hf
  · rename_i he
    exact bt_ok hc si he fun F' H' s' => iteT (ha F0 H0 F' H' σ ρ fp out D s' hf hD)
  · rename_i he
    exact bt_ok hc si he fun F' H' s' => iteF (hb F0 H0 F' H' σ ρ fp out D s' hf hD)
  · cases hf
theorem st_whl {c : Expr} {b : List Stmt} {f : Env → Option Out} (hp : PassesOwn (model X.prog X.w) X.A X.env X.xe) (hc : ∀ σ F ρ b k, SlotR X.K F σ ρ → ev C G E ρ = some (k, .bl b) → EvT X c σ F b) (hb : StOk X.K (WSs X b) f) (w : Nat) :
    StOk X.K (WS X (.While c b [] pos)) (fun ρ => whlL (fun r => evB C G E r) f w ρ) := fun F0 H0 F H σ ρ fp out D si hf hD => by
  refine ws_of (ps_while hp pt_W pss_W) ⟨fun m σ' H' => ∃ F' ρ' fp', SI X.K F0 H0 F' H' σ' ρ' fp' ∧ whlL (fun r => evB C G E r) f m ρ' = some out, ⟨w, F, ρ, fp, si, hf⟩, ?_⟩
  rintro m σ1 H1 ⟨F1, ρ1, fp1, s1, hw⟩
  cases m with
  | zero => cases hw
  | succ m =>
    unfold whlL at hw
    split at hw
    · rename_i he
      refine bt_ok hc s1 he fun F2 H2 s2 => iteT ⟨fun σ' H' => ∃ F' ρ' fp', SI X.K F0 H0 F' H' σ' ρ' fp' ∧ whlL (fun r => evB C G E r) f m ρ' = some out, fun σ' H' h => ⟨m, Nat.lt_succ_self m, h⟩, ?_⟩
      split at hw
      · rename_i ρ2 hfb
        exact hb F0 H0 F2 H2 σ1 ρ1 fp1 _ _ s2 hfb fun F' H' σ' fp' s' => ⟨F', ρ2, fp', s', hw⟩
      · rename_i ρ2 hfb
        exact hb F0 H0 F2 H2 σ1 ρ1 fp1 _ _ s2 hfb fun F' H' σ' fp' s' => ⟨F', ρ2, fp', s', hw⟩
      · rename_i ρ2 hfb
        cases hw
        exact hb F0 H0 F2 H2 σ1 ρ1 fp1 _ _ s2 hfb fun F' H' σ' fp' s' => hD F' H' σ' fp' s'
      · rename_i k d hfb
        cases hw
        exact hb F0 H0 F2 H2 σ1 ρ1 fp1 _ _ s2 hfb hD
      · cases hw
    · rename_i he
      cases hw
      exact bt_ok hc s1 he fun F2 H2 s2 => iteF (hD F2 H2 σ1 fp1 s2)
    · cases hw
theorem st_for {tg iter : Expr} {b : List Stmt} {t : Tg} {f : Env → Option Out} (hp : PassesOwn (model X.prog X.w) X.A X.env X.xe) (hcalm : X.calm = true) (hfold : ∀ v, foldedSetIterable iter X.env v = pure v) (hg : PG X tg (gOf X.K t))
    (hi : ∀ σ F ρ ds, SlotR X.K F σ ρ → isDicE C G E ρ = false → evI C G E ρ = some ds → EvI X tg iter σ F ds) (hb : StOk X.K (WSs X b) f) :
    StOk X.K (WS X (.For tg iter b [] pos)) (fun ρ => match evW C G E ρ with | some (ds, ρ') => forL t f ds ρ' | none => none) := fun F0 H0 F H σ ρ fp out D si hf hD => by
  dsimp only at hf
  split at hf
  · rename_i ds ρ' he
    unfold evW at he
    split at he
    · cases he
    · rename_i hnd
      split at he
      · rename_i ds' hev
        cases he
        obtain ⟨G', fo, s1, eg, sr, s2⟩ := si_split si (fv E)
        refine ws_of (ps_for hp hcalm pi_W hg pss_W hfold) (hi σ G' _ ds sr (by simpa using hnd) hev G' H (.refl _) s1.st.fh _ fun J F2 H2 st wk => ?_)
        have sA : SI X.K F0 H0 F2 H2 σ (freeze (fv E) 0 ρ) fo := ⟨s1.st.trans st, s1.rel.stp st, s1.fr⟩
        refine ⟨fun i m σ' H' => i + m = ds.length ∧ ∃ F' ρ' fp', SI X.K F2 (mix F2 H0) F' H' σ' ρ' fp' ∧ forL t f (ds.drop i) ρ' = some out,
          ⟨ds.length, by omega, F2, _, fo, sA.rebase, by rw [List.drop_zero]; exact hf⟩, ?_⟩
        rintro i m σ1 H1 ⟨hm, F1, ρ1, fp1, s3, hl⟩
        by_cases hlt : i < ds.length
        · obtain ⟨d, hd⟩ := getElem?_lt hlt
          have hdrop : ds.drop i = d :: ds.drop (i + 1) := by
            obtain ⟨hl', e⟩ := List.getElem?_eq_some_iff.mp hd
            rw [← e]; exact List.drop_eq_getElem_cons hl'
          rw [hdrop] at hl
          unfold forL at hl
          refine .inr ⟨wk.go i H1 (s3.st.ff.trans s3.st.fh) hlt, fun σ' H' => i + 1 + (m - 1) = ds.length ∧ ∃ F' ρ' fp', SI X.K F2 (mix F2 H0) F' H' σ' ρ' fp' ∧ forL t f (ds.drop (i + 1)) ρ' = some out, fun σ' H' h => ⟨m - 1, by omega, h⟩, fun x Hx hy => ?_⟩
          obtain ⟨Fx, sx, dx⟩ := wk.yld i H1 x Hx d F1 s3.st.ff s3.st.fh hd hy
          have s4 : SI X.K F2 (mix F2 H0) Fx Hx σ1 ρ1 fp1 := ⟨s3.st.trans sx, s3.rel.stp sx, s3.fr⟩
          split at hl
          · cases hl
          · rename_i ρ2 hasg
            refine asgE_ok s4 dx hasg fun σ2 fp2 s5 => ?_
            split at hl
            · rename_i ρ3 hfb
              exact hb F2 (mix F2 H0) Fx Hx σ2 ρ2 fp2 _ _ s5 hfb fun F' H' σ' fp' s' => ⟨by omega, F', ρ3, fp', s', hl⟩
            · rename_i ρ3 hfb
              exact hb F2 (mix F2 H0) Fx Hx σ2 ρ2 fp2 _ _ s5 hfb fun F' H' σ' fp' s' => ⟨by omega, F', ρ3, fp', s', hl⟩
            · rename_i ρ3 hfb
              cases hl
              exact hb F2 (mix F2 H0) Fx Hx σ2 ρ2 fp2 _ _ s5 hfb fun F' H' σ' fp' s' => hD F' H' σ' fp' (s'.back sA.st)
            · rename_i k dd hfb
              cases hl
              exact hb F2 (mix F2 H0) Fx Hx σ2 ρ2 fp2 _ _ s5 hfb fun v F' H' fq st' o fr => hD v F' H' fq (sA.st.back st') o fun a ha => fr_back (fr a ha)
            · cases hl
        · have e : i = ds.length := by omega
          subst e
          rw [List.drop_length] at hl
          cases hl
          exact .inl ⟨wk.stop H1 (s3.st.ff.trans s3.st.fh), hD F1 H1 σ1 fp1 (s3.back sA.st)⟩
      · cases he
  · cases hf
end
end PV

set_option Elab.async false
set_option linter.all false
set_option maxRecDepth 100000
set_option maxHeartbeats 2000000
/-! PV, part S: statements that write. -/
namespace PV
open PySem PySem.Spec PyProof.Rows L2
theorem freeze_len (m : List Nat) : ∀ (i0 : Nat) (r : Env), (freeze m i0 r).length = r.length
  | _, [] => rfl
  | i0, none :: r => by simp [freeze, freeze_len m (i0 + 1) r]
  | i0, some s :: r => by simp [freeze, freeze_len m (i0 + 1) r]
theorem freeze_tell (m : List Nat) : ∀ (i0 : Nat) (r : Env) (j : Nat) (z : Nat × D), (freeze m i0 r)[j]? = some (some z) → ∃ z', r[j]? = some (some z')
  | _, [], j, z, h => by simp [freeze] at h
  | i0, none :: r, 0, z, h => by simp [freeze] at h
  | i0, some s :: r, 0, z, h => ⟨s, rfl⟩
  | i0, none :: r, j + 1, z, h => freeze_tell m (i0 + 1) r j z (by simpa [freeze] using h)
  | i0, some s :: r, j + 1, z, h => freeze_tell m (i0 + 1) r j z (by simpa [freeze] using h)
theorem evS_tell {C : Str → List D → List Str → List D → Option (Nat × D)} {G : Str → Option D} {A : Exp} {ρ ρ' : Env} {k : Nat} {y : D} {i : Nat} {z : Nat × D} (h : evS C G A ρ = some (k, y, ρ')) (hx : ρ'[i]? = some (some z)) : ∃ z', ρ[i]? = some (some z') := by
  unfold evS at h
  split at h
  · cases h
    split at hx
    · exact ⟨_, hx⟩
    · exact freeze_tell _ _ _ _ _ hx
  · cases h
section
variable {X : Cx} {C : Str → List D → List Str → List D → Option (Nat × D)} {G : Str → Option D} {e a b : Expr} {E A B : Exp} {pos apos : Pos} {n : Str} {p2 : Pos} {i : Nat}
/-- a name that stands in slot i, as it is read -/
structure Nm (X : Cx) (n : Str) (i : Nat) : Prop where
  N : X.N[i]? = some n
  v : Vis X.env.scope n
  d : (n == ("__debug__" : Str)) = false
  c : (n == ("__classdict__" : Str)) = false
theorem Nm.pe (h : Nm X n i) {pos : Pos} : PE X (.Name n pos) (tVar i) := pe_var h.N h.v h.d h.c
theorem own_lst_inv {K : PySem.W.Frag} {F H : Hp} {v : V} {ds : List D} {fq : List Addr} (h : Own K F H 1 v (.lst ds) fq) : ∃ a vs, v = .ref a ∧ fq = [a] ∧ H a = some (.lst vs) ∧ F a = none ∧ Dats K F vs ds ∧ ds.length ≤ cap := by
  cases h with
  | sc i _ => simp [imm] at i
  | lst h1 h2 h3 h4 h5 =>
    obtain ⟨rfl, hd⟩ := owns_nil h3
    exact ⟨_, _, rfl, rfl, h1, h2, hd, h5⟩
theorem own_dic_inv {K : PySem.W.Frag} {F H : Hp} {v : V} {ds : List (Key × D)} {fq : List Addr} (h : Own K F H 1 v (.dic ds) fq) : ∃ a kvs, v = .ref a ∧ fq = [a] ∧ H a = some (.dK kvs) ∧ F a = none ∧ kvs.map (·.1) = ds.map (·.1) ∧ Dats K F (kvs.map (·.2)) (ds.map (·.2)) ∧ ds.length ≤ cap := by
  cases h with
  | sc i _ => simp [imm] at i
  | dic h1 h2 e h3 h4 h5 =>
    obtain ⟨rfl, hd⟩ := owns_nil h3
    exact ⟨_, _, rfl, rfl, h1, h2, e, hd, h5⟩
theorem own_dicT_inv {K : PySem.W.Frag} {F H : Hp} {v : V} {ds : List (List Key × D)} {fq : List Addr} (h : Own K F H 1 v (.dicT ds) fq) : ∃ a kvs, v = .ref a ∧ fq = [a] ∧ H a = some (.dT kvs) ∧ F a = none ∧ kvs.map (·.1) = ds.map (·.1) ∧ Dats K F (kvs.map (·.2)) (ds.map (·.2)) ∧ ds.length ≤ cap := by
  cases h with
  | sc i _ => simp [imm] at i
  | dicT h1 h2 e h3 h4 h5 =>
    obtain ⟨rfl, hd⟩ := owns_nil h3
    exact ⟨_, _, rfl, rfl, h1, h2, e, hd, h5⟩
theorem st_app (nm : Nm X n i) (h : BE X.K (WE X e) (evS C G E)) (na : Pl X e) (hline : (apos.endLine == pos.line) = true) {spos : Pos} : StOk X.K (WS X (.Expr (.Call (.Attribute (.Name n p2) "append" apos) [e] [] pos) spos)) (fun ρ => match ρ[i]? with
    | some (some (1, .lst _)) => match evS C G E ρ with
      | some (_, d, ρ') => match ρ'[i]? with
        | some (some (1, .lst xs)) => if xs.length < cap then some (.nx (ρ'.set i (some (1, .lst (xs ++ [d]))))) else none
        | _ => none
      | none => none
    | _ => none) := fun F0 H0 F H σ ρ fp out D si hf hD => by
  dsimp only at hf
  split at hf
  · rename_i xs0 h0
    split at hf
    · rename_i k d ρ' he
      split at hf
      · rename_i xs hx
        obtain ⟨hl, e'⟩ := if_some hf
        cases e'
        obtain ⟨v0, fq0, hσ, o0, in0⟩ := si.rel.get h0
        obtain ⟨l, vs0, rfl, rfl, hH0, hF0, _, _⟩ := own_lst_inv o0
        refine ws_of (ps_expr (pe_bm PySem.F.plainAttrs_list PySem.F.slot_list_append PySem.F.type_list_append mt_append nm.pe (pa_cons pe_W pa_nil (na _)) rfl (few1 na) hline (na _) rfl) rfl) ⟨_, hσ, .inl ⟨rfl, _, .of hH0⟩, ?_⟩
        refine h F0 H0 F H σ ρ fp k d ρ' si he _ fun v F' H' fp' fq s' o nin fr => ?_
        obtain ⟨F2, ef, s2, dv⟩ := s'.fix o nin fr
        obtain ⟨v1, fq1, hσ1, o1, in1⟩ := s2.rel.get hx
        rw [hσ] at hσ1
        cases hσ1
        obtain ⟨l', vs, e1, rfl, hH, hF, hd, hlen⟩ := own_lst_inv o1
        cases e1
        refine ⟨l, vs, v, rfl, rfl, hH, cap_lt (by rw [hd.length]; omega), ?_⟩
        obtain ⟨fp3, s3⟩ := s2.write (o := .lst (vs ++ [v])) (F' := F2) (d' := .lst (xs ++ [d])) hx hσ (in1 l (by simp)) (fun fq' ho => by
          obtain ⟨l2, _, e2, rfl, _⟩ := own_lst_inv ho
          cases e2; rfl) (.lst upd_same hF (owns_zero (hd.app (.one dv))) (by simp) (by rw [List.length_append]; exact hl))
        exact hD _ _ _ _ s3
      · cases hf
    · cases hf
  · cases hf
theorem st_ext (nm : Nm X n i) (h : BE X.K (WE X e) (evS C G E)) (na : Pl X e) (hline : (apos.endLine == pos.line) = true) {spos : Pos} : StOk X.K (WS X (.Expr (.Call (.Attribute (.Name n p2) "extend" apos) [e] [] pos) spos)) (fun ρ => match ρ[i]? with
    | some (some (1, .lst _)) => match evS C G E ρ with
      | some (_, .lst ys, ρ') => match ρ'[i]? with
        | some (some (1, .lst xs)) => if xs.length + ys.length ≤ cap then some (.nx (ρ'.set i (some (1, .lst (xs ++ ys))))) else none
        | _ => none
      | _ => none
    | _ => none) := fun F0 H0 F H σ ρ fp out D si hf hD => by
  dsimp only at hf
  split at hf
  · rename_i xs0 h0
    split at hf
    · rename_i k ys ρ' he
      split at hf
      · rename_i xs hx
        obtain ⟨hl, e'⟩ := if_some hf
        cases e'
        obtain ⟨v0, fq0, hσ, o0, in0⟩ := si.rel.get h0
        obtain ⟨l, vs0, rfl, rfl, hH0, hF0, _, _⟩ := own_lst_inv o0
        refine ws_of (ps_expr (pe_bm PySem.F.plainAttrs_list PySem.F.slot_list_extend PySem.F.type_list_extend mt_extend nm.pe (pa_cons pe_W pa_nil (na _)) rfl (few1 na) hline (na _) rfl) rfl) ⟨_, hσ, .inl ⟨rfl, _, .of hH0⟩, ?_⟩
        refine h F0 H0 F H σ ρ fp k _ ρ' si he _ fun v F' H' fp' fq s' o nin fr => ?_
        obtain ⟨F2, ef, s2, dv⟩ := s'.fix o nin fr
        obtain ⟨v1, fq1, hσ1, o1, in1⟩ := s2.rel.get hx
        rw [hσ] at hσ1
        cases hσ1
        obtain ⟨l', vs, e1, rfl, hH, hF, hd, hlen⟩ := own_lst_inv o1
        cases e1
        cases dv with
        | lst g1 g2 g3 =>
          have l1 := hd.length
          have l2 := g2.length
          refine ⟨l, _, vs, _, rfl, rfl, hH, s2.st.fh _ _ g1, cap_le (by omega), ?_⟩
          obtain ⟨fp3, s3⟩ := s2.write (o := .lst (vs ++ _)) (F' := F2) (d' := .lst (xs ++ ys)) hx hσ (in1 l (by simp)) (fun fq' ho => by
            obtain ⟨l2, _, e2, rfl, _⟩ := own_lst_inv ho
            cases e2; rfl) (.lst upd_same hF (owns_zero (hd.app g2)) (by simp) (by rw [List.length_append]; exact hl))
          exact hD _ _ _ _ s3
      · cases hf
    · cases hf
  · cases hf
/-- x[k] = e -/
theorem st_seti (hu : X.A.units + 64 < cLine) (nm : Nm X n i) (h : BE X.K (WE X e) (evS C G E)) (hk : BE X.K (WE X a) (evS C G A)) (hs : ∀ t l, swapsWith e (some (.Subscript (.Name n p2) a t)) l X.env = pure false) (hw : ∀ t, swappedStores [.Subscript (.Name n p2) a t] e X.env = pure none)
    (hsl : ∀ t v, assign (.Subscript (.Name n p2) a t) X.env v = (do let ov ← holding [v] (eval (.Name n p2) X.env); let iv ← holding [v, ov] (eval a X.env); standAt t; holding [v, ov, iv] (setItem ov iv v); release [v, ov, iv] [])) {spos : Pos} :
    StOk X.K (WS X (.Assign [.Subscript (.Name n p2) a pos] e spos)) (fun ρ => match evS C G E ρ with
    | some (_, v, ρ1) => match evS C G A ρ1 with
      | some (_, y, ρ2) => match ρ2[i]? with
        | some (some (1, d)) => match putAt d y v with
          | some d' => some (.nx (ρ2.set i (some (1, d'))))
          | none => none
        | _ => none
      | none => none
    | none => none) := fun F0 H0 F H σ ρ fp out D si hf hD => by
  dsimp only at hf
  split at hf
  · rename_i k v ρ1 he
    split at hf
    · rename_i k2 y ρ2 hy
      split at hf
      · rename_i d hx
        split at hf
        · rename_i d' hput
          cases hf
          -- the value, then the key, in states of the heap that has the value
          have go : ∀ {W : V → V → Hp → Prop} (q : ∀ vv yv F' H' fp', SI X.K F0 H0 F' H' σ ρ2 fp' → Dat X.K F' vv v → Dat X.K F' yv y → W vv yv H'), WE X e σ H fun vv H1 => ∃ u, σ[i]? = some (some u) ∧ WE X a σ H1 fun yv H2 => W vv yv H2 := fun {W} q => by
            refine h F0 H0 F H σ ρ fp k v ρ1 si he _ fun vv F1 H1 fp1 fq s1 o nin fr => ?_
            obtain ⟨F2, ef, s2, dv⟩ := s1.fix o nin fr
            obtain ⟨u, hu⟩ : ∃ u, σ[i]? = some (some u) := by
              obtain ⟨⟨kz, dz⟩, hz⟩ := evS_tell hy hx
              obtain ⟨v', _, hv', _⟩ := s2.rel.get hz
              exact ⟨v', hv'⟩
            refine ⟨u, hu, hk F2 (mix F2 H0) F2 H1 σ ρ1 fp1 k2 y ρ2 s2.rebase hy _ fun yv F3 H3 fp3 fq3 s3 o3 nin3 fr3 => ?_⟩
            obtain ⟨F4, ef4, s4, dy⟩ := s3.fix o3 nin3 fr3
            exact q vv yv F4 H3 fp3 (s4.back s2.st) (dv.mono s4.st.ff) dy
          cases d with
          | dic kvs =>
            simp only [putAt] at hput
            split at hput
            · rename_i key hkey
              obtain ⟨hl, rfl⟩ := if_some hput
              refine ws_of (ps_dput (by omega) nm.pe pe_W pe_W (hs _ _)) ?_
              show WE X e σ H fun vv H1 => ∃ u, σ[i]? = some (some u) ∧ WE X a σ H1 fun yv H2 => ∃ a H4, u = .ref a ∧ DPut H2 a yv vv H4 ∧ D.nx σ H4
              have := go (W := fun vv yv H2 => ∀ u, σ[i]? = some (some u) → ∃ a H4, u = .ref a ∧ DPut H2 a yv vv H4 ∧ D.nx σ H4) fun vv yv F' H' fp' s' dv dy u hu => by
                obtain ⟨v1, fq1, hσ1, o1, in1⟩ := s'.rel.get hx
                rw [hu] at hσ1
                cases hσ1
                obtain ⟨l, ws, rfl, rfl, hH, hF, hkk, hd, hlen⟩ := own_dic_inv o1
                have eky := key_dat dy hkey
                subst eky
                have hwl : ws.length = kvs.length := by simpa using congrArg List.length hkk
                refine ⟨l, _, rfl, .k hH (cap_lt (by omega)), ?_⟩
                obtain ⟨p1, p2⟩ := put_dat (k := key) hkk hd dv
                obtain ⟨fp3, s3⟩ := s'.write (o := .dK (putK ws key vv)) (F' := F') (d' := .dic (putD kvs key v)) hx hu (in1 l (by simp)) (fun fq' ho => by
                  obtain ⟨l2, _, e2, rfl, _⟩ := own_dic_inv ho
                  cases e2; rfl) (.dic upd_same hF p1 (owns_zero p2) (by simp) (Nat.le_trans (putD_le _ _ _) hl))
                exact hD _ _ _ _ s3
              exact fun pins s I => wpAny_mono (this pins s I) (fun z s' ⟨zv, H1, I1, r1, u, hu, q⟩ => ⟨zv, H1, I1, r1, u, hu, fun pins2 s2 I2 => wpAny_mono (q pins2 s2 I2) (fun z2 s2' ⟨zv2, H2, I3, r3, q3⟩ => ⟨zv2, H2, I3, r3, q3 u hu⟩) fun _ _ x => x⟩) fun _ _ x => x
            · cases hput
          | dicT kvs =>
            cases y with
            | tup ks =>
              simp only [putAt] at hput
              split at hput
              · rename_i key hkey
                obtain ⟨hl, rfl⟩ := if_some hput
                refine ws_of (ps_dput (by omega) nm.pe pe_W pe_W (hs _ _)) ?_
                show WE X e σ H fun vv H1 => ∃ u, σ[i]? = some (some u) ∧ WE X a σ H1 fun yv H2 => ∃ a H4, u = .ref a ∧ DPut H2 a yv vv H4 ∧ D.nx σ H4
                have := go (W := fun vv yv H2 => ∀ u, σ[i]? = some (some u) → ∃ a H4, u = .ref a ∧ DPut H2 a yv vv H4 ∧ D.nx σ H4) fun vv yv F' H' fp' s' dv dy u hu => by
                  obtain ⟨v1, fq1, hσ1, o1, in1⟩ := s'.rel.get hx
                  rw [hu] at hσ1
                  cases hσ1
                  obtain ⟨l, ws, rfl, rfl, hH, hF, hkk, hd, hlen⟩ := own_dicT_inv o1
                  cases dy with
                  | tup g1 g2 g3 =>
                    have eky := keys_dat g2 hkey
                    subst eky
                    have hwl : ws.length = kvs.length := by simpa using congrArg List.length hkk
                    refine ⟨l, _, rfl, .t hH (s'.st.fh _ _ g1) (cap_lt (by omega)), ?_⟩
                    obtain ⟨p1, p2⟩ := put_dat (k := key) hkk hd dv
                    obtain ⟨fp3, s3⟩ := s'.write (o := .dT (putK ws key vv)) (F' := F') (d' := .dicT (putD kvs key v)) hx hu (in1 l (by simp)) (fun fq' ho => by
                      obtain ⟨l2, _, e2, rfl, _⟩ := own_dicT_inv ho
                      cases e2; rfl) (.dicT upd_same hF p1 (owns_zero p2) (by simp) (Nat.le_trans (putD_le _ _ _) hl))
                    exact hD _ _ _ _ s3
                exact fun pins s I => wpAny_mono (this pins s I) (fun z s' ⟨zv, H1, I1, r1, u, hu, q⟩ => ⟨zv, H1, I1, r1, u, hu, fun pins2 s2 I2 => wpAny_mono (q pins2 s2 I2) (fun z2 s2' ⟨zv2, H2, I3, r3, q3⟩ => ⟨zv2, H2, I3, r3, q3 u hu⟩) fun _ _ x => x⟩) fun _ _ x => x
              · cases hput
            | _ => cases hput
          | lst xs =>
            cases y with
            | int ix =>
              simp only [putAt] at hput
              split at hput
              · rename_i j hj
                cases hput
                refine ws_of (ps_asg pe_W (pg_sub nm.pe pe_W set_list (hsl _)) (show swapsWithSole [.Subscript (.Name n p2) a pos] e spos.line X.env = pure false from hs pos spos.line) (hw _) rfl) ?_
                show WE X e σ H fun vv H1 => ∃ u, σ[i]? = some (some u) ∧ WE X a σ H1 fun yv H2 => rSetL u yv vv H2 fun H3 => D.nx σ H3
                have := go (W := fun vv yv H2 => ∀ u, σ[i]? = some (some u) → rSetL u yv vv H2 fun H3 => D.nx σ H3) fun vv yv F' H' fp' s' dv dy u hu => by
                  obtain ⟨v1, fq1, hσ1, o1, in1⟩ := s'.rel.get hx
                  rw [hu] at hσ1
                  cases hσ1
                  obtain ⟨l, ws, rfl, rfl, hH, hF, hd, hlen⟩ := own_lst_inv o1
                  cases dy
                  refine ⟨l, ws, ix, j, rfl, rfl, hH, by rw [hd.length]; exact hj, ?_⟩
                  obtain ⟨fp3, s3⟩ := s'.write (o := .lst (ws.set j vv)) (F' := F') (d' := .lst (xs.set j v)) hx hu (in1 l (by simp)) (fun fq' ho => by
                    obtain ⟨l2, _, e2, rfl, _⟩ := own_lst_inv ho
                    cases e2; rfl) (.lst upd_same hF (owns_zero (hd.set dv j)) (by simp) (by rw [List.length_set]; exact hlen))
                  exact hD _ _ _ _ s3
                exact fun pins s I => wpAny_mono (this pins s I) (fun z s' ⟨zv, H1, I1, r1, u, hu, q⟩ => ⟨zv, H1, I1, r1, u, hu, fun pins2 s2 I2 => wpAny_mono (q pins2 s2 I2) (fun z2 s2' ⟨zv2, H2, I3, r3, q3⟩ => ⟨zv2, H2, I3, r3, q3 u hu⟩) fun _ _ x => x⟩) fun _ _ x => x
              · cases hput
            | _ => cases hput
          | _ => cases hput
        · cases hf
      · cases hf
    · cases hf
  · cases hf

/-! ### d.pop(k) -/
theorem pop_core (nm : Nm X n i) (hk : BE X.K (WE X a) (evS C G A)) (m : M1 X (.Name n p2) "pop" apos a pos) {F0 H0 F H : Hp} {σ : L2.St} {ρ ρ1 : Env} {fp : List Addr} {kvs0 : List (Key × D)} {k : Nat} {y d v d' : D} {Q : VK}
    (si : SI X.K F0 H0 F H σ ρ fp) (h0 : ρ[i]? = some (some (1, .dic kvs0))) (he : evS C G A ρ = some (k, y, ρ1)) (hx : ρ1[i]? = some (some (1, d))) (hp : popAt d y = some (v, d'))
    (q : ∀ vv F' H' fp', SI X.K F0 H0 F' H' σ (ρ1.set i (some (1, d'))) fp' → Dat X.K F' vv v → Q vv H') : WE X (.Call (.Attribute (.Name n p2) "pop" apos) [a] [] pos) σ H Q := by
  obtain ⟨v0, fq0, hσ, o0, in0⟩ := si.rel.get h0
  obtain ⟨l, vs0, rfl, rfl, hH0, hF0, _, _⟩ := own_dic_inv o0
  refine w_of (pe_dpop1 nm.pe pe_W m) ⟨_, hσ, l, rfl, .inl ⟨_, .of hH0⟩, ?_⟩
  refine hk F0 H0 F H σ ρ fp k y ρ1 si he _ fun yv F' H' fp' fq s' o nin fr => ?_
  obtain ⟨F2, ef, s2, dy⟩ := s'.fix o nin fr
  obtain ⟨v1, fq1, hσ1, o1, in1⟩ := s2.rel.get hx
  rw [hσ] at hσ1
  cases hσ1
  cases d <;> try (cases (show (none : Option (D × D)) = some (v, d') from hp))
  rename_i kvs
  simp only [popAt] at hp
  split at hp
  · rename_i key hkey
    split at hp
    · rename_i v2 hv2
      cases hp
      obtain ⟨l', ws, e1, rfl, hH, hF, hkk, hd, hlen⟩ := own_dic_inv o1
      cases e1
      have eky := key_dat dy hkey
      subst eky
      rcases val_dat key hkk hd with ⟨z1, z2⟩ | ⟨d2, vv, z1, z2, dv⟩
      · rw [z1] at hv2; cases hv2
      · rw [z1] at hv2; cases hv2
        refine ⟨ws, key, vv, hH, rfl, z2, ?_⟩
        obtain ⟨p1, p2⟩ := drop_dat (k := key) hkk hd
        obtain ⟨fp3, s3⟩ := s2.write (o := .dK (dropK ws key)) (F' := F2) (d' := .dic (dropD kvs key)) hx hσ (in1 l (by simp)) (fun fq' ho => by
          obtain ⟨l2, _, e2, rfl, _⟩ := own_dic_inv ho
          cases e2; rfl) (.dic upd_same hF p1 (owns_zero p2) (by simp) (Nat.le_trans (List.length_filter_le _ _) hlen))
        exact q vv _ _ _ s3 dv
    · cases hp
  · cases hp
theorem st_popd (nm : Nm X n i) (hk : BE X.K (WE X a) (evS C G A)) (m : M1 X (.Name n p2) "pop" apos a pos) {spos : Pos} : StOk X.K (WS X (.Expr (.Call (.Attribute (.Name n p2) "pop" apos) [a] [] pos) spos)) (fun ρ => match ρ[i]? with
    | some (some (1, .dic _)) => match evS C G A ρ with
      | some (_, y, ρ1) => match ρ1[i]? with
        | some (some (1, d)) => match popAt d y with
          | some (_, d') => some (.nx (ρ1.set i (some (1, d'))))
          | none => none
        | _ => none
      | none => none
    | _ => none) := fun F0 H0 F H σ ρ fp out D si hf hD => by
  dsimp only at hf
  split at hf
  · rename_i kvs0 h0
    split at hf
    · rename_i k y ρ1 he
      split at hf
      · rename_i d hx
        split at hf
        · rename_i v d' hp
          cases hf
          exact ws_of (ps_expr pe_W rfl) (pop_core nm hk m si h0 he hx hp fun vv F' H' fp' s' _ => hD _ _ _ _ s')
        · cases hf
      · cases hf
    · cases hf
  · cases hf
theorem st_popx {j : Nat} {x : Str} {p3 : Pos} (nm : Nm X n i) (hk : BE X.K (WE X a) (evS C G A)) (m : M1 X (.Name n p2) "pop" apos a pos) (hN : X.N.Nodup) (hj : X.N[j]? = some x) (hx : Loc X.env.scope x) (hfn : X.fn x = true ∨ X.env.scope.names.lookup x = some .local) {spos : Pos} :
    StOk X.K (WS X (.Assign [.Name x p3] (.Call (.Attribute (.Name n p2) "pop" apos) [a] [] pos) spos)) (fun ρ => match ρ[i]? with
    | some (some (1, .dic _)) => match evS C G A ρ with
      | some (_, y, ρ1) => match ρ1[i]? with
        | some (some (1, d)) => match popAt d y with
          | some (v, d') => some (.nx ((ρ1.set i (some (1, d'))).set j (some (0, v))))
          | none => none
        | _ => none
      | none => none
    | _ => none) := fun F0 H0 F H σ ρ fp out D si hf hD => by
  dsimp only at hf
  split at hf
  · rename_i kvs0 h0
    split at hf
    · rename_i k y ρ1 he
      split at hf
      · rename_i d hx'
        split at hf
        · rename_i v d' hp
          cases hf
          refine ws_of (ps_set hN hj hx pe_W rfl hfn) (pop_core nm hk m si h0 he hx' hp fun vv F' H' fp' s' dv => ?_)
          obtain ⟨fp2, s2⟩ := s'.put0 j dv
          exact hD _ _ _ _ s2
        · cases hf
      · cases hf
    · cases hf
  · cases hf
/-! ### a, b = e -/
theorem st_unp {es : List Expr} {kk : Nat} {is : List Nat} (h : BE X.K (WE X e) (evS C G E)) (hg : PG X (.Tuple es kk p2) (gOf X.K (.many is))) (hs : ∀ l, swapsWith e (some (.Tuple es kk p2)) l X.env = pure false) (hw : swappedStores [.Tuple es kk p2] e X.env = pure none) {spos : Pos} :
    StOk X.K (WS X (.Assign [.Tuple es kk p2] e spos)) (fun ρ => match evS C G E ρ with
    | some (_, .tup ds, ρ') => if ds.length = is.length then some (.nx (asgEs is ds ρ')) else none
    | _ => none) := fun F0 H0 F H σ ρ fp out D si hf hD => by
  dsimp only at hf
  split at hf
  · rename_i k ds ρ' he
    obtain ⟨hl, e'⟩ := if_some hf
    cases e'
    refine ws_of (ps_asg pe_W hg (show swapsWithSole [.Tuple es kk p2] e spos.line X.env = pure false from hs spos.line) hw rfl) (h F0 H0 F H σ ρ fp k _ ρ' si he _ fun v F' H' fp' fq s' o nin fr => ?_)
    obtain ⟨F2, ef, s2, dv⟩ := s'.fix o nin fr
    exact asgE_ok s2 dv (by show (if ds.length = is.length then some (asgEs is ds ρ') else none) = _; rw [if_pos hl]) fun σ' fp3 s3 => hD _ _ _ _ s3
  · cases hf
theorem st_par {j : Nat} {x y : Str} {px py pt pt2 : Pos} {kt k2 : Nat} (ha : BE X.K (WE X a) (evS C G A)) (hb : BE X.K (WE X b) (evS C G B)) (na : Pl X a) (nb : Pl X b) (hc : X.calm = true) (hN : X.N.Nodup) (hi : X.N[i]? = some x) (hj : X.N[j]? = some y) (hij : i ≠ j)
    (hx : X.env.scope.names.lookup x = some .local) (hy : X.env.scope.names.lookup y = some .local)
    (hw : swappedStores [.Tuple [.Name x px, .Name y py] kt pt] (.Tuple [a, b] k2 pt2) X.env = pure (some [x, y])) {spos : Pos} :
    StOk X.K (WS X (.Assign [.Tuple [.Name x px, .Name y py] kt pt] (.Tuple [a, b] k2 pt2) spos)) (fun ρ => match evS C G A ρ with
    | some (_, d, ρ1) => match evS C G B ρ1 with
      | some (_, e, ρ2) => some (.nx ((ρ2.set i (some (0, d))).set j (some (0, e))))
      | none => none
    | none => none) := fun F0 H0 F H σ ρ fp out D si hf hD => by
  dsimp only at hf
  split at hf
  · rename_i k d ρ1 he
    split at hf
    · rename_i k' d' ρ2 he'
      cases hf
      refine ws_of (ps_par hc hN hi hj hij hx hy (pa_cons pe_W (pa_cons pe_W pa_nil (nb _)) (na _)) hw rfl) ?_
      refine ha F0 H0 F H σ ρ fp k d ρ1 si he _ fun v F1 H1 fp1 fq s1 o nin fr => ?_
      obtain ⟨F2, ef, s2, dv⟩ := s1.fix o nin fr
      refine hb F2 (mix F2 H0) F2 H1 σ ρ1 fp1 k' d' ρ2 s2.rebase he' _ fun u F3 H3 fp3 fq3 s3 o3 nin3 fr3 => ?_
      obtain ⟨F4, ef4, s4, du⟩ := s3.fix o3 nin3 fr3
      obtain ⟨fp5, s5⟩ := (s4.back s2.st).put0 i (dv.mono s4.st.ff)
      obtain ⟨fp6, s6⟩ := s5.put0 j du
      exact ⟨v, u, rfl, hD _ _ _ _ s6⟩
    · cases hf
  · cases hf
end
end PV

set_option Elab.async false
set_option linter.all false
set_option maxRecDepth 100000
set_option maxHeartbeats 4000000
/-! PV, part T: from the model's statements to ours; they are sound. -/
namespace PV
open PySem PySem.Spec PyProof.Rows L2
/-! ### name = {..} on one line -/
theorem ps_setDc {X : Cx} {i : Nat} {y : Str} {py : Pos} {kx vx tg iter : Expr} {ifs : List Expr} {scope : Scope} {own : List (Str × Nat)} {pos spos : Pos} {wi : TI} {g : TG} {tt : TT} {tk tv : TE} (hc : X.calm = true) (hN : X.N.Nodup) (hy : X.N[i]? = some y) (hyl : X.env.scope.names.lookup y = some .local)
    (hsw : swapsWith (.DictComp kx vx [⟨tg, iter, ifs, 0⟩] scope pos) (some (.Name y py)) spos.line X.env = pure true) (hi : PI X tg iter wi) (ok : BlkOk X.N X.env.scope scope own)
    (hg : ∀ (s : Shared) (H : Hp) (C : Addr) (cl : List (Str × Addr)) (fp : List Addr), PG (X.blk s H scope (compEnvC scope cl C X.env) fp) tg g) (ht : ∀ (s : Shared) (H : Hp) (C : Addr) (cl : List (Str × Addr)) (fp : List Addr), PTs (X.blk s H scope (compEnvC scope cl C X.env) fp) ifs tt)
    (hk : ∀ (s : Shared) (H : Hp) (C : Addr) (cl : List (Str × Addr)) (fp : List Addr), PE (X.blk s H scope (compEnvC scope cl C X.env) fp) kx tk)
    (he : ∀ (s : Shared) (H : Hp) (C : Addr) (cl : List (Str × Addr)) (fp : List Addr), PE (X.blk s H scope (compEnvC scope cl C X.env) fp) vx tv) (hs : ∀ x, foldedSetIterable iter X.env x = pure x) :
    PS X (.Assign [.Name y py] (.DictComp kx vx [⟨tg, iter, ifs, 0⟩] scope pos) spos) (tAsg (tDc wi g tt tk tv (own.map (·.2))) (gName i)) := by
  refine ⟨fun pins s σ H D I h => ?_⟩
  rw [exec_Assign_Name_used _ _ _ _ hsw]
  refine wpAny_bind (wpAny_standAt (wpAny_bind ?_))
  show wpAny _ X.A (do let _ ← comprehension (.DictComp kx vx [⟨tg, iter, ifs, 0⟩] scope pos) scope X.env (firstIterPos [⟨tg, iter, ifs, 0⟩] pos) newDict false (eval iter X.env) (some (assign (.Name y py) X.env))) _ _ s
  have h : tDc wi g tt tk tv (own.map (·.2)) σ H (fun x H1 => gName i x σ H1 D.nx) := h
  refine wpAny_bind (thn (dc_core (Qf := fun _ s' => SP X pins D .next s') hc hN I hi ok hg ht hk he hs h fun L C s' m H' I' q hn f => ?_) fun _ s' hq => wpAny_pure (wpAny_pure hq))
  show wpAny _ _ (assign (.Name y py) X.env (.ref L)) _ _ _
  refine wpAny_assign_Name (store_ok2 (v := V.ref L) I' hN hy (.inl hyl) rfl (fun s2 I2 ⟨a, sb, ha⟩ => ?_) (.inr hyl))
  obtain ⟨f0, f1, f2, f3, f4, f5⟩ := f
  have haC : C ≠ a := by
    rcases ha with z | z
    · rw [z]; exact f1
    · exact fun e => f4 y a z e.symm
  refine ⟨m, hn.sameBut sb haC, fun h3 sb3 => ?_⟩
  exact ⟨_, H', I2.turned (t' := s2.toks) (fun b o hb e => (sb3.2 b hb).trans e) f0 f1 f3 f4 f5, q⟩

def popCall : Expr → Option (Str × Expr)
  | .Call (.Attribute (.Name d p2) m apos) [k] [] cpos => if m = "pop" ∧ (apos.endLine == cpos.line) = true then some (d, k) else none
  | _ => none
/-- a name to read, and its slot -/
def rdSlot (B : Blk) (x : Str) : Option Nat := if okName x = true ∧ visB B.sc x = true then slotOf B.N x else none
def trPar (n : Nat) (B : Blk) (ts vs : List Expr) : Option Sta := match ts, vs with
  | [.Name x px, .Name y py], [a, b] =>
    if B.sc.kind = .function ∧ B.sc.names.lookup x = some .local ∧ B.sc.names.lookup y = some .local ∧ x ≠ y ∧ px.line = py.line ∧ [a, b].all (foldedForSure 8) = false ∧ [a, b].all (constantsAlone 8) = false then
      match slotOf B.N x, slotOf B.N y, tr n B a, tr n B b with
      | some i, some j, some A, some A' => some (.par i j A A')
      | _, _, _, _ => none
    else none
  | _, _ => none
def isTup : Expr → Option (List Expr)
  | .Tuple vs _ _ => some vs
  | _ => none
def trAsg (n : Nat) (B : Blk) (t e : Expr) : Option Sta := match t with
  | .Name x _ => if locB B.ws x = true then match slotOf B.N x with
      | some j => match popCall e with
        | some (d, k) => match rdSlot B d, tr n B k with
          | some i, some K => some (.popx j i K)
          | _, _ => none
        | none => (tr n B e).map (.set j)
      | none => none
    else none
  | .Tuple ts kk p => match isTup e with
    | some vs => if vs.all (foldedForSure 8) = true then match trTgs B ts, tr n B e with
        | some is, some E => some (.unp is E)
        | _, _ => none
      else trPar n B ts vs
    | none => match trTgs B ts, tr n B e with
      | some is, some E => some (.unp is E)
      | _, _ => none
  | .Subscript o k _ => match o with
    | .Name x _ => match rdSlot B x, tr n B k, tr n B e with
      | some i, some K, some E => some (.seti i K E)
      | _, _, _ => none
    | _ => none
  | _ => none
def trExpr (n : Nat) (B : Blk) (e : Expr) : Option Sta := match e with
  | .Call (.Attribute (.Name d _) m apos) [k] [] cpos => if (apos.endLine == cpos.line) = true then match rdSlot B d, tr n B k with
      | some i, some K => if m = "append" then some (.app i K) else if m = "extend" then some (.ext i K) else if m = "pop" then some (.popd i K) else none
      | _, _ => none
    else none
  | _ => none
def trRet (n : Nat) (B : Blk) (e : Expr) : Option Sta := match e with
  | .Name x _ => match rdSlot B x with
    | some i => some (.retv i)
    | none => (tr n B e).map .ret
  | e => (tr n B e).map .ret
mutual
def trS (n : Nat) (B : Blk) : Nat → Stmt → Option Sta
  | 0, _ => none
  | q + 1, s => match s with
    | .Pass _ => some .pass
    | .Break _ => some .brk
    | .Continue _ => some .cnt
    | .Raise .. => some .bad
    | .Return v _ => match v with
      | none => some .retn
      | some e => trRet n B e
    | .If c a b _ => match tr n B c, trSs n B q a, trSs n B q b with
      | some c, some a, some b => some (.ite c a b)
      | _, _, _ => none
    | .For tg it b orelse _ => match orelse with
      | [] => match trTg B tg, trIter (tr n B) B tg it, trSs n B q b with
        | some t, some i, some b => some (.for_ t i b)
        | _, _, _ => none
      | _ => none
    | .While c b orelse _ => match orelse with
      | [] => match tr n B c, trSs n B q b with
        | some c, some b => some (.whl c b)
        | _, _ => none
      | _ => none
    | .Assign ts e _ => match ts with
      | [t] => trAsg n B t e
      | _ => none
    | .Expr e _ => trExpr n B e
    | _ => none
def trSs (n : Nat) (B : Blk) : Nat → List Stmt → Option Sta
  | 0, _ => none
  | q + 1, ss => match ss with
    | [] => some .nil
    | s :: r => match trS n B q s, trSs n B q r with
      | some a, some b => some (.cons a b)
      | _, _ => none
end
section
variable {g : G5} {lvl : Nat} {C : Str → List D → List Str → List D → Option (Nat × D)} {G : Str → Option D} {n : Nat} {B : Blk} {X : Cx}
theorem nm_of (x : XOk X B lvl) {y : Str} {i : Nat} (h : rdSlot B y = some i) : Nm X y i := by
  unfold rdSlot at h
  split at h
  · rename_i hc
    obtain ⟨h1, h2, h3⟩ := ok_dbg hc.1
    exact ⟨by rw [x.N_]; exact slotOf_get h, by rw [x.sc_]; exact vis_of hc.2, h1, h2⟩
  · cases h
theorem be_we (S : Snd g lvl C G n) (o : On g X) (x : XOk X B lvl) {e : Expr} {E : Exp} (h : tr n B e = some E) : BE X.K (WE X e) (evS C G E) := be_of fun σ F ρ k d sr he => (S B e E h X o x σ F ρ sr k d he).1
theorem be_t (S : Snd g lvl C G n) (o : On g X) (x : XOk X B lvl) {e : Expr} {E : Exp} (h : tr n B e = some E) : ∀ σ F ρ b k, SlotR X.K F σ ρ → ev C G E ρ = some (k, .bl b) → EvT X e σ F b := fun σ F ρ b k sr he => (S B e E h X o x σ F ρ sr k _ he).2 b rfl
theorem sw_sub (e : Expr) (o k : Expr) (t : Pos) (l : Nat) (env : PySem.Env) : swapsWith e (some (.Subscript o k t)) l env = pure false := by
  cases e <;> rfl
theorem sw_tup (e : Expr) (es : List Expr) (kk : Nat) (t : Pos) (l : Nat) (env : PySem.Env) : swapsWith e (some (.Tuple es kk t)) l env = pure false := by
  cases e <;> rfl
theorem ss_sub (e : Expr) (o k : Expr) (t : Pos) (env : PySem.Env) : swappedStores [.Subscript o k t] e env = pure none := by
  cases e <;> rfl
theorem as_sub {k : Expr} {K : Exp} (h : tr n B k = some K) (o : Expr) (t : Pos) (env : PySem.Env) (v : Value) : assign (.Subscript o k t) env v = (do let ov ← holding [v] (eval o env); let iv ← holding [v, ov] (eval k env); standAt t; holding [v, ov, iv] (setItem ov iv v); release [v, ov, iv] []) := by
  cases n with
  | zero => cases h
  | succ n => cases k <;> first | rfl | cases h
/-- name = e -/
theorem be_wu (hc : CallS g lvl C) (hg : GloS g G) (hb : BltS g) (o : On g X) (x : XOk X B lvl) {e : Expr} {E : Exp} (h : tr n B e = some E) {y : Str} {py spos : Pos} {j : Nat} (hl : locB B.ws y = true) (hj : slotOf B.N y = some j) :
    BE X.K (WU X (.Assign [.Name y py] e spos) j) (evS C G E) := by
  obtain ⟨l1, l2⟩ := x.asg y hl
  have plain : (∀ l, swapsWith e (some (.Name y py)) l X.env = pure false) → BE X.K (WU X (.Assign [.Name y py] e spos) j) (evS C G E) := fun hs => be_of fun σ F ρ k d sr he F1 H e1 e2 Q q D hQ => by
    subst hQ
    exact ws_of (ps_set (by rw [x.N_]; exact x.nd) (by rw [x.N_]; exact slotOf_get hj) (by rw [x.sc_]; exact l1) pe_W (hs _) (by rw [x.sc_]; exact l2)) ((snd_all hc hg hb n B e E h X o x σ F ρ sr k d he).1 F1 H e1 e2 _ q)
  cases n with
  | zero => cases h
  | succ n =>
    have S := snd_all hc hg hb n (g := g)
    cases e <;> try (exact plain fun _ => rfl)
    case ListComp elt gs scope pos =>
      cases hsw : (X.env.blockKind == .function && X.env.kindOf y == some .local && py.line == pos.line && !(scope.names.any fun (n, k) => n == y && (k == .local || k == .cell))) with
      | false =>
        have hpl : ∀ l, swapsWith (.ListComp elt gs scope pos) (some (.Name y py)) l X.env = pure false := by
          intro l
          show pure (X.env.blockKind == .function && X.env.kindOf y == some .local && py.line == pos.line && !(scope.names.any fun (n, k) => n == y && (k == .local || k == .cell))) = _
          rw [hsw]
        exact plain hpl
      | true =>
        have hloc : X.env.scope.names.lookup y = some .local := by
          simp only [Bool.and_eq_true, beq_iff_eq] at hsw
          exact hsw.1.1.2
        refine be_of fun σ F ρ k d hs q => ?_
        unfold tr at h
        dsimp only at h
        split at h
        · rename_i tg iter ifs as
          split at h
          · rename_i hcond
            obtain ⟨rfl, hblk⟩ := hcond
            split at h
            · rename_i t it c y' ht hit hcc hy
              split at h
              · rename_i hsub
                cases h
                simp only [ev] at q
                split at q
                · rename_i ds hds
                  obtain ⟨ys, hys, e⟩ := Option.map_eq_some_iff.mp q
                  cases e
                  refine comp_any x hb S o hs wu_lock hit hds fun F' hs' hi' => comp_lc S o x (fun σ H Q hr D hQ => ?_) hcc hy hsub hi' hs' hys
                  subst hQ
                  refine ws_of (ps_setLc x.calm (by rw [x.N_]; exact x.nd) (by rw [x.N_]; exact slotOf_get hj) hloc ?_ pi_W (by rw [x.N_, x.sc_]; exact blkOk_by hblk) (fun s H' C cl fp => pg_of (x.blk s H' scope C cl fp) ht) ptB peB (iter_fold hit _)) hr
                  show pure (X.env.blockKind == .function && X.env.kindOf y == some .local && py.line == pos.line && !(scope.names.any fun (n, k) => n == y && (k == .local || k == .cell))) = _
                  rw [hsw]
                · cases q
              · cases h
            · cases h
          · cases h
        · cases h
    case DictComp kx vx gs scope pos =>
      cases hsw : (X.env.blockKind == .function && X.env.kindOf y == some .local && py.line == pos.line && !(scope.names.any fun (n, k) => n == y && (k == .local || k == .cell))) with
      | false =>
        have hpl : ∀ l, swapsWith (.DictComp kx vx gs scope pos) (some (.Name y py)) l X.env = pure false := by
          intro l
          show pure (X.env.blockKind == .function && X.env.kindOf y == some .local && py.line == pos.line && !(scope.names.any fun (n, k) => n == y && (k == .local || k == .cell))) = _
          rw [hsw]
        exact plain hpl
      | true =>
        have hloc : X.env.scope.names.lookup y = some .local := by
          simp only [Bool.and_eq_true, beq_iff_eq] at hsw
          exact hsw.1.1.2
        refine be_of fun σ F ρ k d hs q => ?_
        unfold tr at h
        dsimp only at h
        split at h
        · rename_i tg iter ifs as
          split at h
          · rename_i hcond
            obtain ⟨rfl, hblk⟩ := hcond
            split at h
            · rename_i t it c y' z' ht hit hcc hy hz
              split at h
              · rename_i hsub
                cases h
                simp only [ev] at q
                split at q
                · rename_i ds hds
                  obtain ⟨ys, hys, e⟩ := Option.map_eq_some_iff.mp q
                  cases e
                  refine comp_any x hb S o hs wu_lock hit hds fun F' hs' hi' => comp_dc S o x (fun σ H Q hr D hQ => ?_) hcc hy hz hsub hi' hs' hys
                  subst hQ
                  refine ws_of (ps_setDc x.calm (by rw [x.N_]; exact x.nd) (by rw [x.N_]; exact slotOf_get hj) hloc ?_ pi_W (by rw [x.N_, x.sc_]; exact blkOk_by hblk) (fun s H' C cl fp => pg_of (x.blk s H' scope C cl fp) ht) ptB peB peB (iter_fold hit _)) hr
                  show pure (X.env.blockKind == .function && X.env.kindOf y == some .local && py.line == pos.line && !(scope.names.any fun (n, k) => n == y && (k == .local || k == .cell))) = _
                  rw [hsw]
                · cases q
              · cases h
            · cases h
          · cases h
        · cases h
    case SetComp elt gs scope pos => cases h
end
end PV

set_option Elab.async false
set_option linter.all false
set_option maxRecDepth 100000
set_option maxHeartbeats 4000000
/-! PV, part U: statements are sound. -/
namespace PV
open PySem PySem.Spec PyProof.Rows L2
section
variable {g : G5} {lvl : Nat} {C : Str → List D → List Str → List D → Option (Nat × D)} {G : Str → Option D} {n : Nat} {B : Blk} {X : Cx}
theorem popCall_inv {e : Expr} {d : Str} {k : Expr} (h : popCall e = some (d, k)) : ∃ p2 apos cpos, e = .Call (.Attribute (.Name d p2) "pop" apos) [k] [] cpos ∧ (apos.endLine == cpos.line) = true := by
  unfold popCall at h
  split at h
  · split at h
    · rename_i hc
      obtain ⟨rfl, hl⟩ := hc
      cases h
      exact ⟨_, _, _, rfl, hl⟩
    · cases h
  · cases h
theorem m1_of {k : Expr} (na : Pl X k) {d : Str} {p2 apos cpos : Pos} (hl : (apos.endLine == cpos.line) = true) : M1 X (.Name d p2) "pop" apos k cpos := ⟨rfl, few1 na, hl, by
  rw [na []]; rfl⟩
theorem ss_tup {ts : List Expr} {kk : Nat} {p : Pos} {e : Expr} (h : isTup e = none) (env : PySem.Env) : swappedStores [.Tuple ts kk p] e env = pure none := by
  cases e <;> first | rfl | cases h
theorem ss_fold {ts vs : List Expr} {kk k2 : Nat} {p p2 : Pos} (h : vs.all (foldedForSure 8) = true) (env : PySem.Env) : swappedStores [.Tuple ts kk p] (.Tuple vs k2 p2) env = pure none := by
  show (do
    if !(ts.length == 2 || ts.length == 3) || vs.length != ts.length || env.blockKind != .function then return none
    if vs.any fun | .Starred .. => true | _ => false then return none
    let line := (ts.head?.map (·.pos.line)).getD 0
    let names := ts.filterMap fun
      | .Name id pos => if env.kindOf id == some .local && pos.line == line then some id else none
      | _ => none
    if names.length != ts.length || names.eraseDups.length != names.length then return none
    if vs.all (foldedForSure 8) then return none
    if vs.all (constantsAlone 8) then unsupported "assign.tuple-of-constant-expressions:order-of-the-stores"
    return some names : Sem (Option (List Str))) = pure none
  rw [h]
  split
  · rfl
  · split
    · rfl
    · dsimp only
      split
      · rfl
      · rfl
def isStar : Expr → Bool
  | .Starred .. => true
  | _ => false
theorem tr_nostar {e : Expr} {E : Exp} (h : tr n B e = some E) : isStar e = false := by
  cases n with
  | zero => cases h
  | succ n => cases e <;> first | rfl | cases h
theorem ss_par {a b : Expr} {x y : Str} {px py p p2 : Pos} {kk k2 : Nat} (env : PySem.Env) (hk : env.scope.kind = .function) (hx : env.scope.names.lookup x = some .local) (hy : env.scope.names.lookup y = some .local) (hne : x ≠ y) (hl : px.line = py.line)
    (h1 : [a, b].all (foldedForSure 8) = false) (h2 : [a, b].all (constantsAlone 8) = false) (na : isStar a = false) (nb : isStar b = false) :
    swappedStores [.Tuple [.Name x px, .Name y py] kk p] (.Tuple [a, b] k2 p2) env = pure (some [x, y]) := by
  have e1 : (env.kindOf x == some .local && px.line == px.line) = true := by
    show ((env.scope.names.lookup x == some .local) && _) = true
    rw [hx]; simp
  have e2 : (env.kindOf y == some .local && py.line == px.line) = true := by
    show ((env.scope.names.lookup y == some .local) && _) = true
    rw [hy, hl]; simp
  have e3 : (env.blockKind != .function) = false := by
    unfold PySem.Env.blockKind
    rw [hk]; rfl
  have e4 : ([a, b].any fun | .Starred .. => true | _ => false) = false := by
    simp only [List.any_cons, List.any_nil, Bool.or_false]
    rw [Bool.or_eq_false_iff]
    constructor
    · cases a <;> first | rfl | cases na
    · cases b <;> first | rfl | cases nb
  have e5 : ([Expr.Name x px, .Name y py].filterMap fun
      | .Name id pos => if env.kindOf id == some .local && pos.line == px.line then some id else none
      | _ => none) = [x, y] := by
    simp only [List.filterMap_cons, List.filterMap_nil, e1, e2, if_true]
  have e6 : ([x, y].eraseDups.length != [x, y].length) = false := by
    have : ([x, y] : List Str).eraseDups = [x, y] := by
      rw [List.eraseDups_cons]
      have : (!y == x) = true := by simp [Ne.symm hne]
      simp only [List.filter_cons, this, if_true, List.filter_nil]
      rfl
    rw [this]; rfl
  show (do
    if !(2 == 2 || 2 == 3) || 2 != 2 || env.blockKind != .function then return none
    if [a, b].any fun | .Starred .. => true | _ => false then return none
    let line := px.line
    let names := [Expr.Name x px, .Name y py].filterMap fun
      | .Name id pos => if env.kindOf id == some .local && pos.line == line then some id else none
      | _ => none
    if names.length != 2 || names.eraseDups.length != names.length then return none
    if [a, b].all (foldedForSure 8) then return none
    if [a, b].all (constantsAlone 8) then unsupported "assign.tuple-of-constant-expressions:order-of-the-stores"
    return some names : Sem (Option (List Str))) = pure (some [x, y])
  rw [e3, e4, h1, h2]
  dsimp only
  rw [e5, e6]
  rfl
theorem st_all (hc : CallS g lvl C) (hg : GloS g G) (hb : BltS g) (o : On g X) (x : XOk X B lvl) (hp : PassesOwn (model X.prog X.w) X.A X.env X.xe) (w : Nat) : ∀ q, (∀ s S, trS n B q s = some S → StOk X.K (WS X s) (exec C G w S)) ∧ (∀ ss S, trSs n B q ss = some S → StOk X.K (WSs X ss) (exec C G w S))
  | 0 => ⟨fun s S h => by simp [trS] at h, fun ss S h => by simp [trSs] at h⟩
  | q + 1 => by
    have S0 := snd_all hc hg hb n (g := g)
    obtain ⟨i1, i2⟩ := st_all hc hg hb o x hp w q
    refine ⟨fun s S h => ?_, fun ss S h => ?_⟩
    · unfold trS at h
      split at h
      · cases h; exact st_pass
      · cases h; exact st_brk
      · cases h; exact st_cnt
      · cases h; exact fun F0 H0 F H σ ρ fp out D si hf hD => by cases hf
      · split at h
        · cases h; exact st_retn
        · rename_i e
          have gen : ∀ {E : Exp} {ps : Pos}, tr n B e = some E → StOk X.K (WS X (.Return (some e) ps)) (exec C G w (.ret E)) := fun {E ps} hE => st_ret (be_we S0 o x hE)
          unfold trRet at h
          split at h
          · rename_i y p
            split at h
            · rename_i i hi
              cases h
              have nm := nm_of x hi
              exact st_retv nm.N nm.v nm.d nm.c
            · obtain ⟨E, hE, rfl⟩ := Option.map_eq_some_iff.mp h
              exact gen hE
          · obtain ⟨E, hE, rfl⟩ := Option.map_eq_some_iff.mp h
            exact gen hE
      · split at h
        · rename_i c' a' b' h1 h2 h3
          cases h
          exact st_if (be_t S0 o x h1) (i2 _ _ h2) (i2 _ _ h3)
        · cases h
      · split at h
        · split at h
          · rename_i t i b h1 h2 h3
            cases h
            exact st_for hp x.calm (iter_fold h2 _) (pg_of x h1) (fun σ F ρ ds hs hd q => snd_iter S0 hb o x hs h2 q hd) (i2 _ _ h3)
          · cases h
        · cases h
      · split at h
        · split at h
          · rename_i c b h1 h2
            cases h
            exact st_whl hp (be_t S0 o x h1) (i2 _ _ h2) w
          · cases h
        · cases h
      · split at h
        · rename_i t
          unfold trAsg at h
          split at h
          · rename_i y py
            split at h
            · rename_i hl
              split at h
              · rename_i j hj
                split at h
                · rename_i d k hpc
                  split at h
                  · rename_i i K' hi hK
                    cases h
                    obtain ⟨p2, apos, cpos, rfl, hline⟩ := popCall_inv hpc
                    obtain ⟨l1, l2⟩ := x.asg y hl
                    exact st_popx (nm_of x hi) (be_we S0 o x hK) (m1_of (tr_pl hK X) hline) (by rw [x.N_]; exact x.nd) (by rw [x.N_]; exact slotOf_get hj) (by rw [x.sc_]; exact l1) (by rw [x.sc_]; exact l2)
                  · cases h
                · obtain ⟨E, hE, rfl⟩ := Option.map_eq_some_iff.mp h
                  exact st_set (be_wu hc hg hb o x hE hl hj)
              · cases h
            · cases h
          · rename_i ts kk p
            have unp : ∀ {e : Expr} {is : List Nat} {E : Exp} {sp : Pos}, trTgs B ts = some is → tr n B e = some E → swappedStores [.Tuple ts kk p] e X.env = pure none → StOk X.K (WS X (.Assign [.Tuple ts kk p] e sp)) (exec C G w (.unp is E)) := fun {e is E sp} h1 h2 h3 =>
              st_unp (be_we S0 o x h2) (pg_of x (show trTg B (.Tuple ts kk p) = some (.many is) by show (trTgs B ts).map Tg.many = _; rw [h1]; rfl)) (fun l => sw_tup _ _ _ _ _ _) h3
            split at h
            · rename_i vs hv
              split at h
              · rename_i hf
                split at h
                · rename_i is E h1 h2
                  cases h
                  refine unp h1 h2 ?_
                  unfold isTup at hv
                  split at hv
                  · cases hv; exact ss_fold hf _
                  · cases hv
                · cases h
              · unfold trPar at h
                split at h
                · rename_i a1 px b1 py a b hnf
                  split at h
                  · rename_i hcond
                    obtain ⟨c1, c2, c3, c4, c5, c6, c7⟩ := hcond
                    split at h
                    · rename_i i j A A' hi hj hA hA'
                      cases h
                      unfold isTup at hv
                      split at hv
                      · cases hv
                        refine st_par (be_we S0 o x hA) (be_we S0 o x hA') (tr_pl hA X) (tr_pl hA' X) x.calm (by rw [x.N_]; exact x.nd) (by rw [x.N_]; exact slotOf_get hi) (by rw [x.N_]; exact slotOf_get hj) ?_ (by rw [x.sc_]; exact c2) (by rw [x.sc_]; exact c3) (ss_par X.env (by rw [x.sc_]; exact c1) (by rw [x.sc_]; exact c2) (by rw [x.sc_]; exact c3) c4 c5 c6 c7 (tr_nostar hA) (tr_nostar hA'))
                        intro e
                        subst e
                        have := (slotOf_get hi).symm.trans (slotOf_get hj)
                        cases this
                        exact c4 rfl
                      · cases hv
                    · cases h
                  · cases h
                · cases h
            · rename_i hv
              split at h
              · rename_i is E h1 h2
                cases h
                exact unp h1 h2 (ss_tup hv _)
              · cases h
          · split at h
            · split at h
              · rename_i i K' E h1 h2 h3
                cases h
                exact st_seti (by have := x.room.un; omega) (nm_of x h1) (be_we S0 o x h3) (be_we S0 o x h2) (fun t l => sw_sub _ _ _ _ _ _) (fun t => ss_sub _ _ _ _ _) fun t v => as_sub h2 _ _ _ _
              · cases h
            · cases h
          · cases h
        · cases h
      · unfold trExpr at h
        split at h
        · split at h
          · rename_i hline
            split at h
            · rename_i i K' hi hK
              split at h
              · rename_i hm
                subst hm
                cases h
                exact st_app (nm_of x hi) (be_we S0 o x hK) (tr_pl hK X) hline
              · split at h
                · rename_i hm
                  subst hm
                  cases h
                  exact st_ext (nm_of x hi) (be_we S0 o x hK) (tr_pl hK X) hline
                · split at h
                  · rename_i hm
                    subst hm
                    cases h
                    exact st_popd (nm_of x hi) (be_we S0 o x hK) (m1_of (tr_pl hK X) hline)
                  · cases h
            · cases h
          · cases h
        · cases h
      · cases h
    · unfold trSs at h
      split at h
      · cases h; exact st_nil
      · split at h
        · rename_i a b h1 h2
          cases h
          exact st_cons (i1 _ _ h1) (i2 _ _ h2)
        · cases h
end
end PV

set_option Elab.async false
set_option linter.all false
set_option maxRecDepth 100000
set_option maxHeartbeats 4000000
/-! PV, part V: defs, and calls of them. -/
namespace PV
open PySem PySem.Spec PyProof.Rows L2
/-- a def: its text, its slots, its parameters, the values that a call without keywords leaves out, the one way with keywords -/
structure Dfn where
  nm : Str
  st : Stmt
  N : List Str
  ps : List Str
  dfl : List D
  kw : Option (Nat × List Str)
  body : Sta
def env0 (N : List Str) (ds : List D) : Env := ds.map (fun d => some (0, d)) ++ List.replicate (N.length - ds.length) none
def runD (C : Str → List D → List Str → List D → Option (Nat × D)) (G : Str → Option D) (w : Nat) (t : Dfn) (ds : List D) : Option (Nat × D) := match exec C G w t.body (env0 t.N ds) with
  | some (.rt k d) => some (k, d)
  | some (.nx _) => some (0, .non)
  | _ => none
def bindD (t : Dfn) (ds : List D) (ks : List Str) (es : List D) : Option (List D) := match ks with
  | [] => if ds.length + t.dfl.length = t.ps.length ∧ es = [] then some (ds ++ t.dfl) else none
  | k :: r => match t.kw with
    | some (n, names) => if ds.length = n ∧ names = k :: r ∧ es.length = names.length ∧ n + names.length = t.ps.length ∧ n ≠ 0 then some (ds ++ es) else none
    | none => none
def callD (T : Str → Option Dfn) (G : Str → Option D) (w : Nat) : Nat → Str → List D → List Str → List D → Option (Nat × D)
  | 0, _, _, _, _ => none
  | k + 1, f, ds, ks, es => match T f with
    | some t => match bindD t ds ks es with
      | some as => runD (callD T G w k) G w t as
      | none => none
    | none => none
/-- what the module tells of a def -/
structure DfOk (g : G5) (t : Dfn) (f : Addr) (fd : FuncData) : Prop where
  fn : L2.Fun g.K t.nm t.nm t.st f fd
  mg : g.mg t.nm = some (.ref f)
  sc : FnScope t.N t.ps (defScope t.st)
  tr : ∃ n q, trSs n ⟨t.N, defScope t.st, defScope t.st⟩ q (defBody t.st) = some t.body
  bnd : ∃ dvs us, Vals dvs us ∧ (∀ F, Dats g.K F dvs t.dfl) ∧ Binds g.K fd t.ps us
  kwb : ∀ n ks, t.kw = some (n, ks) → KBn g.K fd t.ps n ks (fun us ws => us ++ ws) (fun vs zs => vs ++ zs)
def spD (K : PySem.W.Frag) (C : Str → List D → List Str → List D → Option (Nat × D)) (G : Str → Option D) (w : Nat) (t : Dfn) : Sp := fun vs H Q _ => ∃ F ds k d, Ex F H ∧ Dats K F vs ds ∧ ds.length = t.ps.length ∧ runD C G w t ds = some (k, d) ∧
  ∀ v F' H' fq, Stp F H F' H' → Own K F' H' k v d fq → (∀ a ∈ fq, H a = none) → Q v H'
theorem loc_of {sc : Scope} {x : Str} (hx : locB sc x = true) : Loc sc x := by
  unfold locB at hx
  split at hx
  · rename_i e; exact .inl e
  · rename_i e; exact .inr e
  · cases hx
theorem rel_start {K : PySem.W.Frag} {F H : Hp} {n : Nat} : ∀ {vs : List V} {ds : List D}, Dats K F vs ds → Rel K F H (vs.map some ++ List.replicate n none) (ds.map (fun d => some (0, d)) ++ List.replicate n none) []
  | _, _, .nil => by
    show Rel K F H (List.replicate n none) (List.replicate n none) []
    induction n with
    | zero => exact .nil
    | succ n ih => exact .no ih
  | _, _, .cons h t => .sl (fq := []) (.frz h) (rel_start t) (by simp)
section
variable {g : G5} {G : Str → Option D} {w : Nat} {t : Dfn} {f : Addr} {fd : FuncData}
theorem fn_ok {k : Nat} {C : Str → List D → List Str → List D → Option (Nat × D)} (o : DfOk g t f fd) (hc : CallS g k C) (hg : GloS g G) (hb : BltS g) : FnOk g.P g.w g.K g.mg g.base L2.CX0 (k + 1) f fd t.ps (spD g.K C G w t) := by
  obtain ⟨n, q, htr⟩ := o.tr
  refine o.fn.ok o.sc (fun vs H Q E ⟨F, ds, k, d, _, h2, h3, _⟩ => by rw [h2.length]; exact h3) fun cdv A outer s H vs Q E hr hsp => ?_
  obtain ⟨F, ds, j, d, ex, hd, hl, hrun, hQ⟩ := hsp
  refine ⟨WSs _ _, pss_W, ?_⟩
  have hon : On g (cxOf L2.CX0 g.P g.w g.K g.mg g.base t.N t.nm (defScope t.st) f cdv A outer s H E).nox := ⟨rfl, rfl, rfl, rfl, rfl⟩
  have hx : XOk (cxOf L2.CX0 g.P g.w g.K g.mg g.base t.N t.nm (defScope t.st) f cdv A outer s H E).nox ⟨t.N, defScope t.st, defScope t.st⟩ k := ⟨rfl, o.sc.nd, rfl, rfl, hr, fun x hx => ⟨loc_of hx, .inl rfl⟩⟩
  have main := (st_all hc hg hb hon hx PassesOwn.never w q (n := n)).2 _ _ htr
  have hs : SI g.K F H F H (L2.start t.N vs) (env0 t.N ds) [] := ⟨.refl ex, by
    unfold L2.start env0
    rw [hd.length]
    exact rel_start hd, by simp⟩
  unfold runD at hrun
  split at hrun
  · rename_i k' d' he
    cases hrun
    exact main F H F H _ _ _ _ _ hs he fun v F' H' fq st ow fr => hQ v F' H' fq st ow fr
  · rename_i ρ he
    cases hrun
    exact main F H F H _ _ _ _ _ hs he fun F' H' σ fp si => hQ .non F' H' [] si.st (.frz .non) (by simp)
  · cases hrun
end
/-- the module as a whole -/
structure ModOk (g : G5) (T : Str → Option Dfn) (G : Str → Option D) : Prop where
  defs : ∀ x t, T x = some t → t.nm = x ∧ ∃ f fd, DfOk g t f fd
  glo : GloS g G
  blt : BltS g
theorem kwn_all {kws : List Keyword} {ks : List Str} (env : PySem.Env) : kwNames kws = some ks → (keywordEach kws env).map (·.1) = ks.map some := by
  induction kws generalizing ks with
  | nil => intro h; cases h; rfl
  | cons k r ih =>
    intro h
    unfold kwNames at h
    split at h
    · rename_i n ns h1 h2
      cases h
      obtain ⟨a, v, p⟩ := k
      cases h1
      show some n :: (keywordEach r env).map (·.1) = some n :: ns.map some
      rw [ih h2]
    · cases h
theorem dats_app {K : PySem.W.Frag} {F : Hp} {a b : List V} {c d : List D} (h : Dats K F a c) (h2 : Dats K F b d) : Dats K F (a ++ b) (c ++ d) := h.app h2
theorem pl_any {X : Cx} {pos : Pos} : ∀ {es : List Expr}, (∀ e ∈ es, Pl X e) → (backTo pos (starEach es X.env)).any (·.1) = false
  | [], _ => rfl
  | e :: es, h => by
    have ih := pl_any (pos := pos) (es := es) fun e he => h e (List.mem_cons_of_mem _ he)
    rw [h e (List.mem_cons_self ..) es]
    show (false || (backTo pos (starEach es X.env)).any (·.1)) = false
    rw [ih]; rfl
theorem kwn_map {kws : List Keyword} {env : PySem.Env} {pos : Pos} : (backToKw pos (keywordEach kws env)).map (·.1) = (keywordEach kws env).map (·.1) := by
  unfold backToKw
  rw [List.map_map]
  rfl
theorem somes_all : ∀ {l : List (Option Str × Sem Value)} {ks : List Str}, l.map (·.1) = ks.map some → l.all (·.1.isSome) = true ∧ l.filterMap (·.1) = ks ∧ l.any (·.1.isNone) = false
  | [], ks, h => by cases ks with
    | nil => exact ⟨rfl, rfl, rfl⟩
    | cons k r => cases h
  | a :: l, ks, h => by cases ks with
    | nil => cases h
    | cons k r =>
      obtain ⟨a, b⟩ := a
      injection h with h1 h2
      cases h1
      obtain ⟨i1, i2, i3⟩ := somes_all h2
      exact ⟨by simpa using i1, by simpa using i2, by simpa using i3⟩
theorem kwNames_nil {kws : List Keyword} (h : kwNames kws = some []) : kws = [] := by
  cases kws with
  | nil => rfl
  | cons k r =>
    unfold kwNames at h
    split at h <;> cases h
theorem calls_ok {g : G5} {T : Str → Option Dfn} {G : Str → Option D} (m : ModOk g T G) (w : Nat) : ∀ k, CallS g k (callD T G w k)
  | 0 => fun X o hc hr f args kws ks p pos σ F ds es k d hgl hok hpl hla hkw ha hk h => by cases h
  | lvl + 1 => fun X o hc hr x args kws ks p pos σ F ds es k d hgl hok hpl hla hkw ha hk h => by
    have ih := calls_ok m w lvl
    unfold callD at h
    split at h
    · rename_i t ht
      split at h
      · rename_i as has
        obtain ⟨hnm, f, fd, od⟩ := m.defs x t ht
        have FN := fn_ok (w := w) od ih m.glo m.blt
        obtain ⟨P, w', K, mg, base⟩ := g
        obtain ⟨o1, o2, o3, o4, o5⟩ := o
        dsimp only at o1 o2 o3 o4 o5 FN
        subst o1 o2 o3 o4 o5
        have hm : X.mg x = some (.ref f) := by rw [← hnm]; exact od.mg
        have hdb := (ok_dbg hok).1
        unfold bindD at has
        split at has
        · obtain ⟨hcond, e⟩ := if_some has
          cases e
          obtain ⟨hlen, rfl⟩ := hcond
          have := kwNames_nil hkw
          subst this
          obtain ⟨dvs, us, hv, hdd, hbi⟩ := od.bnd
          have fin : ∀ {F1 H F2 H2 vs} {Q : VK}, Stp F1 H F2 H2 → Dats X.K F2 vs ds → (∀ v F3 H3 fq, Stp F1 H F3 H3 → Own X.K F3 H3 k v d fq → (∀ a ∈ fq, H a = none) → Q v H3) → spD X.K (callD T G w lvl) G w t (vs ++ dvs) H2 Q L2.E0 := fun {F1 H F2 H2 vs Q} st dv q =>
            ⟨F2, ds ++ t.dfl, k, d, st.fh, dv.app (hdd F2), by rw [List.length_append]; exact hlen, h, fun v F3 H3 fq s2 ow fr => q v F3 H3 fq (st.trans s2) ow fun a ha => by
              have := fr a ha
              cases z : H a with
              | none => rfl
              | some u => rw [st.hh _ _ z] at this; cases this⟩
          cases args with
          | nil =>
            intro F1 H e1 e2 Q q
            refine w_of (pe_call0 FN hr hgl hm od.fn.kp hbi hv pass0 hdb) ?_
            show spD _ _ _ _ _ _ H Q L2.E0
            have hds : ds = [] := List.eq_nil_of_length_eq_zero hla.symm
            subst hds
            exact fin (vs := []) (.refl e2) .nil q
          | cons e es =>
            intro F1 H e1 e2 Q q
            refine w_of (pe_call FN hr hgl hm od.fn.kp hbi hv pass0 pa_W hdb (hpl e (List.mem_cons_self ..) es) (pl_any fun e he => hpl e (List.mem_cons_of_mem _ he))) ?_
            exact ha F1 H e1 e2 _ fun vs F2 H2 st dv => fin st dv q
        · split at has
          · rename_i k0 r n names hkw2
            obtain ⟨hcond, e⟩ := if_some has
            cases e
            obtain ⟨h1, h2, h3, h4, h5⟩ := hcond
            subst h2
            cases args with
            | nil => exact absurd (h1.symm.trans hla.symm) h5
            | cons e0 es0 =>
              intro F1 H e1 e2 Q q
              have sa := fun ps => somes_all ((kwn_map (kws := kws) (env := X.env) (pos := ps)).trans (kwn_all X.env hkw))
              refine w_of (pe_callN FN hr hgl hm od.fn.kp (od.kwb _ _ hkw2) pass0 pa_W pk_W (sa pos).1 (sa pos).2.1 hdb (hpl e0 (List.mem_cons_self ..) es0) ?_) ?_
              · rw [pl_any hpl, (sa pos).2.2]; rfl
              · refine ha F1 H e1 e2 _ fun vs F2 H2 st dv => hk F2 H2 (e1.trans st.ff) st.fh _ fun zs F3 H3 s2 dz => ⟨by rw [dv.length]; exact h1, by rw [dz.length]; exact h3, F3, ds ++ es, k, d, s2.fh, (dv.mono s2.ff).app dz, ?_, h, fun v F4 H4 fq s3 ow fr => q v F4 H4 fq (st.trans (s2.trans s3)) ow fun a ha => ?_⟩
                · rw [List.length_append]; omega
                · have := fr a ha
                  cases z : H a with
                  | none => rfl
                  | some u => rw [s2.hh _ _ (st.hh _ _ z)] at this; cases this
          · cases has
      · cases h
    · cases h
end PV

set_option Elab.async false
set_option linter.all false
set_option maxRecDepth 100000
set_option maxHeartbeats 4000000
/-! k07, part A: the defs. -/
namespace K7
open PySem PySem.Spec PyProof.Rows L2 PV
def topS (i : Nat) : Stmt := PySem.Challenge.pw_handsdealt_k07_whole_moves.main.body.getD i (.Pass ⟨0, 0, 0, 0⟩)
/-- is_number -/
def b_is_number : Sta :=
    (.cons (.ret (.and_ (.blt .isint (.var 0)) (.and_ (.nt (.blt .isbool (.var 0))) (.chain .le .le (.var 1) (.var 0) (.var 2)))))
    .nil)
def d_is_number : Dfn := ⟨"is_number", topS 4, ["thing", "least", "most"], ["thing", "least", "most"], [], none, b_is_number⟩
theorem t_is_number : trSs 60 ⟨d_is_number.N, defScope (topS 4), defScope (topS 4)⟩ 60 (defBody (topS 4)) = some b_is_number := by decide +kernel
theorem s_is_number : FnScope d_is_number.N d_is_number.ps (defScope (topS 4)) := ⟨rfl, rfl, rfl, by decide +kernel, rfl, by decide +kernel, by decide +kernel⟩
/-- is_move -/
def b_is_move : Sta :=
    (.cons (.ret (.and_ (.blt .istuple (.var 0)) (.and_ (.cmp .eq (.blt .len (.var 0)) (.int 2)) (.blt .all (.lc [1] (.one 1) (.itr (.var 0)) .yes (.call "is_number" (.cons (.var 1) (.cons (.int 0) (.cons (.glob "PLACES") .nil))) [] .nil))))))
    .nil)
def d_is_move : Dfn := ⟨"is_move", topS 8, ["thing", "one"], ["thing"], [], none, b_is_move⟩
theorem t_is_move : trSs 60 ⟨d_is_move.N, defScope (topS 8), defScope (topS 8)⟩ 60 (defBody (topS 8)) = some b_is_move := by decide +kernel
theorem s_is_move : FnScope d_is_move.N d_is_move.ps (defScope (topS 8)) := ⟨rfl, rfl, rfl, by decide +kernel, rfl, by decide +kernel, by decide +kernel⟩
/-- ring_from -/
def b_ring_from : Sta :=
    (.cons (.set 2 (.lst (.cons (.var 1) .nil)))
    (.cons (.whl (.cmp .ne (.idx (.var 0) (.idx (.var 2) (.neg (.int 1)))) (.var 1)) (.cons (.app 2 (.idx (.var 0) (.idx (.var 2) (.neg (.int 1)))))
    .nil))
    (.cons (.retv 2)
    .nil)))
def d_ring_from : Dfn := ⟨"ring_from", topS 9, ["left", "place", "found"], ["left", "place"], [], none, b_ring_from⟩
theorem t_ring_from : trSs 60 ⟨d_ring_from.N, defScope (topS 9), defScope (topS 9)⟩ 60 (defBody (topS 9)) = some b_ring_from := by decide +kernel
theorem s_ring_from : FnScope d_ring_from.N d_ring_from.ps (defScope (topS 9)) := ⟨rfl, rfl, rfl, by decide +kernel, rfl, by decide +kernel, by decide +kernel⟩
/-- rows_for_ring -/
def b_rows_for_ring : Sta :=
    (.cons (.ite (.cmp .is_ (.var 1) .non) (.cons (.ret (.lc [8, 9] (.many [8, 9]) (.zp (.var 0) (.slc (.var 0) (.itr (.int 1)) .nil)) .yes (.tup (.cons (.str "swap") (.cons (.var 8) (.cons (.var 9) .nil))))))
    .nil) .nil)
    (.cons (.for_ (.many [4, 5]) (.enm (.var 0)) (.cons (.ite (.cmp .isin (.var 5) (.var 2)) (.cons (.set 6 (.bin .add (.slc (.var 0) (.itr (.var 4)) .nil) (.slc (.var 0) .nil (.itr (.var 4)))))
    (.cons (.set 7 (.lc [8, 9] (.many [8, 9]) (.zp (.var 6) (.slc (.var 6) (.itr (.int 1)) .nil)) .yes (.tup (.cons (.str "move") (.cons (.var 8) (.cons (.var 9) .nil))))))
    (.cons (.ret (.bin .add (.var 7) (.lst (.cons (.tup (.cons (.str "move") (.cons (.idx (.var 6) (.neg (.int 1))) (.cons (.idx (.var 2) (.var 5)) .nil)))) .nil))))
    .nil))) .nil)
    .nil))
    (.cons (.set 3 (.bin .add (.lst (.cons (.tup (.cons (.str "move") (.cons (.var 1) (.cons (.idx (.var 0) (.int 0)) .nil)))) .nil)) (.lc [8, 9] (.many [8, 9]) (.zp (.var 0) (.slc (.var 0) (.itr (.int 1)) .nil)) .yes (.tup (.cons (.str "move") (.cons (.var 8) (.cons (.var 9) .nil)))))))
    (.cons (.ret (.bin .add (.var 3) (.lst (.cons (.tup (.cons (.str "move") (.cons (.idx (.var 0) (.neg (.int 1))) (.cons (.var 1) .nil)))) .nil))))
    .nil))))
def d_rows_for_ring : Dfn := ⟨"rows_for_ring", topS 10, ["ring", "spare", "kept", "first", "at", "place", "turned", "rows", "one", "other"], ["ring", "spare", "kept"], [], none, b_rows_for_ring⟩
theorem t_rows_for_ring : trSs 60 ⟨d_rows_for_ring.N, defScope (topS 10), defScope (topS 10)⟩ 60 (defBody (topS 10)) = some b_rows_for_ring := by decide +kernel
theorem s_rows_for_ring : FnScope d_rows_for_ring.N d_rows_for_ring.ps (defScope (topS 10)) := ⟨rfl, rfl, rfl, by decide +kernel, rfl, by decide +kernel, by decide +kernel⟩
/-- together -/
def b_together : Sta :=
    (.cons (.ite (.or_ (.nt (.blt .islist (.var 0))) (.or_ (.cmp .gt (.blt .len (.var 0)) (.glob "MOST")) (.nt (.blt .all (.lc [7] (.one 7) (.itr (.var 0)) .yes (.call "is_move" (.cons (.var 7) .nil) [] .nil)))))) (.cons .bad
    .nil) .nil)
    (.cons (.set 2 (.lc [7] (.one 7) (.itr (.var 0)) .yes (.idx (.var 7) (.int 0))))
    (.cons (.ite (.cmp .lt (.blt .lenset (.var 2)) (.blt .len (.var 2))) (.cons .bad
    .nil) .nil)
    (.cons (.ite (.and_ (.cmp .isnot (.var 1) .non) (.or_ (.nt (.call "is_number" (.cons (.var 1) (.cons (.int 0) (.cons (.glob "PLACES") .nil))) [] .nil)) (.cmp .isin (.var 1) (.bin .add (.var 2) (.lc [7] (.one 7) (.itr (.var 0)) .yes (.idx (.var 7) (.int 1))))))) (.cons .bad
    .nil) .nil)
    (.cons (.set 3 (.dc [11, 8] (.many [11, 8]) (.itr (.var 0)) (.cmp .ne (.var 11) (.var 8)) (.var 11) (.var 8)))
    (.cons (.set 4 (.lst .nil))
    (.cons (.set 5 .dnew)
    (.cons (.whl (.cmp .ne (.var 3) .dnew) (.cons (.set 6 (.lc [11] (.one 11) (.itr (.var 3)) (.cmp .notin (.var 11) (.blt .listvals (.var 3))) (.var 11)))
    (.cons (.ite (.cmp .ne (.var 6) (.lst .nil)) (.cons (.popx 8 3 (.idx (.var 6) (.int 0)))
    (.cons (.app 4 (.tup (.cons (.str "move") (.cons (.idx (.var 6) (.int 0)) (.cons (.var 8) .nil)))))
    (.cons (.seti 5 (.var 8) (.idx (.var 6) (.int 0)))
    .nil))) (.cons (.set 9 (.call "ring_from" (.cons (.var 3) (.cons (.idx (.blt .list (.var 3)) (.int 0)) .nil)) [] .nil))
    (.cons (.for_ (.one 10) (.itr (.var 9)) (.cons (.popd 3 (.var 10))
    .nil))
    (.cons (.ext 4 (.call "rows_for_ring" (.cons (.var 9) (.cons (.var 1) (.cons (.var 5) .nil))) [] .nil))
    .nil))))
    .nil)))
    (.cons (.retv 4)
    .nil)))))))))
def d_together : Dfn := ⟨"together", topS 11, ["moves", "spare", "goals", "left", "rows", "kept", "free", "one", "source", "ring", "place", "goal"], ["moves", "spare"], [.non], some (1, ["spare"]), b_together⟩
theorem t_together : trSs 60 ⟨d_together.N, defScope (topS 11), defScope (topS 11)⟩ 60 (defBody (topS 11)) = some b_together := by decide +kernel
theorem s_together : FnScope d_together.N d_together.ps (defScope (topS 11)) := ⟨rfl, rfl, rfl, by decide +kernel, rfl, by decide +kernel, by decide +kernel⟩
/-- _law_cell_at -/
def b_law_cell_at : Sta :=
    (.cons (.ite (.cmp .lt (.var 1) (.blt .len (.var 0))) (.cons (.ret (.idx (.var 0) (.var 1)))
    .nil) .nil)
    (.cons (.ite (.cmp .eq (.var 0) (.lst .nil)) (.cons (.ret (.bin .mul (.var 1) (.int 48271)))
    .nil) .nil)
    (.cons (.ret (.bin .mod (.bin .mul (.bin .add (.idx (.var 0) (.bin .mod (.var 1) (.blt .len (.var 0)))) (.var 1)) (.int 48271)) (.int 2147483647)))
    .nil)))
def d_law_cell_at : Dfn := ⟨"_law_cell_at", topS 13, ["_law_script", "_law_k"], ["_law_script", "_law_k"], [], none, b_law_cell_at⟩
theorem t_law_cell_at : trSs 60 ⟨d_law_cell_at.N, defScope (topS 13), defScope (topS 13)⟩ 60 (defBody (topS 13)) = some b_law_cell_at := by decide +kernel
theorem s_law_cell_at : FnScope d_law_cell_at.N d_law_cell_at.ps (defScope (topS 13)) := ⟨rfl, rfl, rfl, by decide +kernel, rfl, by decide +kernel, by decide +kernel⟩
/-- _law_numbers -/
def b_law_numbers : Sta :=
    (.cons (.set 2 (.var 0))
    (.cons (.ite (.cmp .lt (.var 0) (.bin .pow (.int 10) (.int 18))) (.cons (.set 2 (.bin .fdiv (.bin .pow (.bin .add (.bin .mul (.bin .mod (.var 0) (.int 2147483647)) (.int 48271)) (.int 12345)) (.int 5)) (.int 1013)))
    .nil) .nil)
    (.cons (.set 3 (.lst .nil))
    (.cons (.for_ (.one 4) (.itr (.var 1)) (.cons (.app 3 (.bin .mod (.var 2) (.var 4)))
    (.cons (.set 2 (.bin .fdiv (.var 2) (.var 4)))
    .nil)))
    (.cons (.retv 3)
    .nil)))))
def d_law_numbers : Dfn := ⟨"_law_numbers", topS 14, ["_law_cell", "_law_bounds", "_law_rest", "_law_found", "_law_bound"], ["_law_cell", "_law_bounds"], [], none, b_law_numbers⟩
theorem t_law_numbers : trSs 60 ⟨d_law_numbers.N, defScope (topS 14), defScope (topS 14)⟩ 60 (defBody (topS 14)) = some b_law_numbers := by decide +kernel
theorem s_law_numbers : FnScope d_law_numbers.N d_law_numbers.ps (defScope (topS 14)) := ⟨rfl, rfl, rfl, by decide +kernel, rfl, by decide +kernel, by decide +kernel⟩
/-- _law_moves -/
def b_law_moves : Sta :=
    (.cons (.set 3 (.call "_law_numbers" (.cons (.var 0) (.cons (.bin .add (.lst (.cons (.bin .add (.var 1) (.int 1)) .nil)) (.bin .mul (.lst (.cons (.blt .len (.var 2)) .nil)) (.bin .mul (.int 2) (.var 1)))) .nil)) [] .nil))
    (.cons (.set 4 (.lst .nil))
    (.cons (.for_ (.one 5) (.rng (.idx (.var 3) (.int 0))) (.cons (.set 6 (.idx (.var 2) (.idx (.var 3) (.bin .add (.int 1) (.bin .mul (.int 2) (.var 5))))))
    (.cons (.ite (.cmp .notin (.var 6) (.lc [7] (.one 7) (.itr (.var 4)) .yes (.idx (.var 7) (.int 0)))) (.cons (.app 4 (.tup (.cons (.var 6) (.cons (.idx (.var 2) (.idx (.var 3) (.bin .add (.int 2) (.bin .mul (.int 2) (.var 5))))) .nil))))
    .nil) .nil)
    .nil)))
    (.cons (.retv 4)
    .nil))))
def d_law_moves : Dfn := ⟨"_law_moves", topS 15, ["_law_cell", "_law_count", "_law_places", "_law_digits", "_law_found", "_law_k", "_law_goal", "_law_one"], ["_law_cell", "_law_count", "_law_places"], [], none, b_law_moves⟩
theorem t_law_moves : trSs 60 ⟨d_law_moves.N, defScope (topS 15), defScope (topS 15)⟩ 60 (defBody (topS 15)) = some b_law_moves := by decide +kernel
theorem s_law_moves : FnScope d_law_moves.N d_law_moves.ps (defScope (topS 15)) := ⟨rfl, rfl, rfl, by decide +kernel, rfl, by decide +kernel, by decide +kernel⟩
/-- _law_done -/
def b_law_done : Sta :=
    (.cons (.set 2 .dnew)
    (.cons (.for_ (.one 3) (.itr (.var 1)) (.cons (.seti 2 (.var 3) (.var 3))
    .nil))
    (.cons (.for_ (.many [4, 5, 6]) (.itr (.var 0)) (.cons (.par 7 8 (.idx (.var 2) (.var 5)) (.idx (.var 2) (.var 6)))
    (.cons (.seti 2 (.var 5) (.var 8))
    (.cons (.ite (.cmp .eq (.var 4) (.str "swap")) (.cons (.seti 2 (.var 6) (.var 7))
    .nil) .nil)
    .nil))))
    (.cons (.retv 2)
    .nil))))
def d_law_done : Dfn := ⟨"_law_done", topS 16, ["_law_rows", "_law_places", "_law_have", "_law_place", "_law_word", "_law_one", "_law_other", "_law_mine", "_law_theirs"], ["_law_rows", "_law_places"], [], none, b_law_done⟩
theorem t_law_done : trSs 60 ⟨d_law_done.N, defScope (topS 16), defScope (topS 16)⟩ 60 (defBody (topS 16)) = some b_law_done := by decide +kernel
theorem s_law_done : FnScope d_law_done.N d_law_done.ps (defScope (topS 16)) := ⟨rfl, rfl, rfl, by decide +kernel, rfl, by decide +kernel, by decide +kernel⟩
/-- _law_right -/
def b_law_right : Sta :=
    (.cons (.set 4 (.bin .add (.var 1) (.ife (.cmp .isnot (.var 2) .non) (.lst (.cons (.var 2) .nil)) (.lst .nil))))
    (.cons (.ite (.or_ (.nt (.blt .islist (.var 3))) (.nt (.blt .all (.lc [9] (.one 9) (.itr (.var 3)) .yes (.and_ (.cmp .isin (.idx (.var 9) (.int 0)) (.tup (.cons (.str "move") (.cons (.str "swap") .nil)))) (.cmp .eq (.blt .len (.var 9)) (.int 3))))))) (.cons (.ret (.bl false))
    .nil) .nil)
    (.cons (.ite (.and_ (.cmp .isnot (.var 2) .non) (.cmp .isin (.str "swap") (.lc [9] (.one 9) (.itr (.var 3)) .yes (.idx (.var 9) (.int 0))))) (.cons (.ret (.bl false))
    .nil) .nil)
    (.cons (.set 5 (.call "_law_done" (.cons (.var 3) (.cons (.var 4) .nil)) [] .nil))
    (.cons (.set 6 (.lc [7] (.one 7) (.itr (.var 0)) .yes (.idx (.var 7) (.int 0))))
    (.cons (.ite (.nt (.blt .all (.lc [10, 11] (.many [10, 11]) (.itr (.var 0)) .yes (.cmp .eq (.idx (.var 5) (.var 10)) (.var 11))))) (.cons (.ret (.bl false))
    .nil) .nil)
    (.cons (.ret (.blt .all (.lc [8] (.one 8) (.itr (.var 1)) (.cmp .notin (.var 8) (.var 6)) (.cmp .eq (.idx (.var 5) (.var 8)) (.var 8)))))
    .nil)))))))
def d_law_right : Dfn := ⟨"_law_right", topS 17, ["_law_moves_here", "_law_places", "_law_spare_at", "_law_rows", "_law_some", "_law_have", "_law_goals", "_law_one", "_law_place", "_law_row", "_law_goal", "_law_source"], ["_law_moves_here", "_law_places", "_law_spare_at", "_law_rows"], [], none, b_law_right⟩
theorem t_law_right : trSs 60 ⟨d_law_right.N, defScope (topS 17), defScope (topS 17)⟩ 60 (defBody (topS 17)) = some b_law_right := by decide +kernel
theorem s_law_right : FnScope d_law_right.N d_law_right.ps (defScope (topS 17)) := ⟨rfl, rfl, rfl, by decide +kernel, rfl, by decide +kernel, by decide +kernel⟩
/-- _law_rings -/
def b_law_rings : Sta :=
    (.cons (.set 1 (.lc [8] (.one 8) (.itr (.var 0)) (.cmp .ne (.idx (.var 8) (.int 0)) (.idx (.var 8) (.int 1))) (.var 8)))
    (.cons (.unp [3, 4] (.tup (.cons (.int 0) (.cons (.int 0) .nil))))
    (.cons (.set 2 (.lst .nil))
    (.cons (.for_ (.many [5, 6]) (.itr (.var 1)) (.cons (.set 7 (.lst (.cons (.var 5) .nil)))
    (.cons (.whl (.and_ (.cmp .notin (.idx (.var 7) (.neg (.int 1))) (.slc (.var 7) .nil (.itr (.neg (.int 1))))) (.cmp .isin (.idx (.var 7) (.neg (.int 1))) (.lc [8] (.one 8) (.itr (.var 1)) .yes (.idx (.var 8) (.int 0))))) (.cons (.app 7 (.idx (.lc [8] (.one 8) (.itr (.var 1)) (.cmp .eq (.idx (.var 8) (.int 0)) (.idx (.var 7) (.neg (.int 1)))) (.idx (.var 8) (.int 1))) (.int 0)))
    .nil))
    (.cons (.ite (.and_ (.cmp .eq (.idx (.var 7) (.neg (.int 1))) (.var 5)) (.cmp .notin (.var 5) (.var 2))) (.cons (.set 9 (.slc (.var 7) .nil (.itr (.neg (.int 1)))))
    (.cons (.set 2 (.bin .add (.var 2) (.var 9)))
    (.cons (.set 3 (.bin .add (.var 3) (.int 1)))
    (.cons (.ite (.cmp .eq (.lc [8] (.one 8) (.itr (.var 1)) (.and_ (.cmp .isin (.idx (.var 8) (.int 1)) (.var 9)) (.cmp .notin (.idx (.var 8) (.int 0)) (.var 9))) (.var 8)) (.lst .nil)) (.cons (.set 4 (.bin .add (.var 4) (.int 1)))
    .nil) .nil)
    .nil)))) .nil)
    .nil))))
    (.cons (.ret (.tup (.cons (.var 3) (.cons (.var 4) (.cons (.blt .len (.var 1)) .nil)))))
    .nil)))))
def d_law_rings : Dfn := ⟨"_law_rings", topS 18, ["_law_moves_here", "_law_left", "_law_seen", "_law_rings_here", "_law_pure", "_law_goal", "_law_source", "_law_way", "_law_one", "_law_ring"], ["_law_moves_here"], [], none, b_law_rings⟩
theorem t_law_rings : trSs 60 ⟨d_law_rings.N, defScope (topS 18), defScope (topS 18)⟩ 60 (defBody (topS 18)) = some b_law_rings := by decide +kernel
theorem s_law_rings : FnScope d_law_rings.N d_law_rings.ps (defScope (topS 18)) := ⟨rfl, rfl, rfl, by decide +kernel, rfl, by decide +kernel, by decide +kernel⟩
/-- _law_fewest -/
def b_law_fewest : Sta :=
    (.cons (.set 3 (.bin .add (.var 1) (.ife (.cmp .isnot (.var 2) .non) (.lst (.cons (.var 2) .nil)) (.lst .nil))))
    (.cons (.set 4 (.lc [10] (.one 10) (.itr (.var 0)) .yes (.idx (.var 10) (.int 0))))
    (.cons (.set 5 (.dpair (.blt .tuple (.var 3)) (.bl true)))
    (.cons (.set 6 (.lst (.cons (.blt .tuple (.var 3)) .nil)))
    (.cons (.set 7 (.int 0))
    (.cons (.whl (.bl true) (.cons (.for_ (.one 8) (.itr (.var 6)) (.cons (.set 11 (.blt .all (.lc [15, 16] (.many [15, 16]) (.itr (.var 0)) .yes (.cmp .eq (.idx (.var 8) (.index (.var 3) (.var 15))) (.var 16)))))
    (.cons (.set 12 (.lc [14] (.one 14) (.rng (.blt .len (.var 1))) (.cmp .notin (.idx (.var 3) (.var 14)) (.var 4)) (.var 14)))
    (.cons (.ite (.and_ (.var 11) (.blt .all (.lc [14] (.one 14) (.itr (.var 12)) .yes (.cmp .eq (.idx (.var 8) (.var 14)) (.idx (.var 3) (.var 14)))))) (.cons (.retv 7)
    .nil) .nil)
    .nil))))
    (.cons (.set 9 (.lst .nil))
    (.cons (.for_ (.one 8) (.itr (.var 6)) (.cons (.for_ (.one 13) (.itn (.call "_law_steps" (.cons (.var 8) (.cons (.cmp .is_ (.var 2) .non) .nil)) [] .nil)) (.cons (.ite (.cmp .notin (.var 13) (.var 5)) (.cons (.seti 5 (.var 13) (.bl true))
    (.cons (.app 9 (.var 13))
    .nil)) .nil)
    .nil))
    .nil))
    (.cons (.set 6 (.var 9))
    (.cons (.set 7 (.bin .add (.var 7) (.int 1)))
    .nil))))))
    .nil))))))
def d_law_fewest : Dfn := ⟨"_law_fewest", topS 19, ["_law_moves_here", "_law_places", "_law_spare_at", "_law_some", "_law_goals", "_law_seen", "_law_front", "_law_count", "_law_have", "_law_later", "_law_one", "_law_good", "_law_rest", "_law_there", "_law_k", "_law_goal", "_law_source"], ["_law_moves_here", "_law_places", "_law_spare_at"], [], none, b_law_fewest⟩
theorem t_law_fewest : trSs 60 ⟨d_law_fewest.N, defScope (topS 19), defScope (topS 19)⟩ 60 (defBody (topS 19)) = some b_law_fewest := by decide +kernel
theorem s_law_fewest : FnScope d_law_fewest.N d_law_fewest.ps (defScope (topS 19)) := ⟨rfl, rfl, rfl, by decide +kernel, rfl, by decide +kernel, by decide +kernel⟩
/-- _law_steps -/
def b_law_steps : Sta :=
    (.cons (.set 2 (.lst .nil))
    (.cons (.for_ (.one 3) (.rng (.blt .len (.var 0))) (.cons (.for_ (.one 4) (.rng (.blt .len (.var 0))) (.cons (.ite (.cmp .ne (.var 3) (.var 4)) (.cons (.app 2 (.bin .add (.bin .add (.slc (.var 0) .nil (.itr (.var 3))) (.tup (.cons (.idx (.var 0) (.var 4)) .nil))) (.slc (.var 0) (.itr (.bin .add (.var 3) (.int 1))) .nil)))
    (.cons (.ite (.and_ (.var 1) (.cmp .lt (.var 3) (.var 4))) (.cons (.set 5 (.blt .list (.var 0)))
    (.cons (.seti 5 (.var 3) (.idx (.var 0) (.var 4)))
    (.cons (.seti 5 (.var 4) (.idx (.var 0) (.var 3)))
    (.cons (.app 2 (.blt .tuple (.var 5)))
    .nil)))) .nil)
    .nil)) .nil)
    .nil))
    .nil))
    (.cons (.retv 2)
    .nil)))
def d_law_steps : Dfn := ⟨"_law_steps", topS 20, ["_law_have", "_law_swaps", "_law_found", "_law_one", "_law_other", "_law_there"], ["_law_have", "_law_swaps"], [], none, b_law_steps⟩
theorem t_law_steps : trSs 60 ⟨d_law_steps.N, defScope (topS 20), defScope (topS 20)⟩ 60 (defBody (topS 20)) = some b_law_steps := by decide +kernel
theorem s_law_steps : FnScope d_law_steps.N d_law_steps.ps (defScope (topS 20)) := ⟨rfl, rfl, rfl, by decide +kernel, rfl, by decide +kernel, by decide +kernel⟩
/-- law -/
def b_law : Sta :=
    (.cons (.set 1 (.lst (.cons (.int 0) (.cons (.int 5) (.cons (.int 7) (.cons (.int 99) .nil))))))
    (.cons (.for_ (.one 2) (.rng (.int 2)) (.cons (.set 4 (.call "_law_moves" (.cons (.call "_law_cell_at" (.cons (.var 0) (.cons (.var 2) .nil)) [] .nil) (.cons (.int 4) (.cons (.var 1) .nil))) [] .nil))
    (.cons (.set 5 (.blt .list (.var 4)))
    (.cons (.for_ (.one 6) (.itn (.lst (.cons .non (.cons (.int 3) .nil)))) (.cons (.set 7 (.ife (.cmp .isnot (.var 6) .non) (.call "together" (.cons (.var 5) .nil) ["spare"] (.cons (.var 6) .nil)) (.call "together" (.cons (.var 5) .nil) [] .nil)))
    (.cons (.ite (.or_ (.cmp .ne (.var 5) (.var 4)) (.nt (.call "_law_right" (.cons (.var 4) (.cons (.var 1) (.cons (.var 6) (.cons (.var 7) .nil)))) [] .nil))) (.cons (.ret (.bl false))
    .nil) .nil)
    (.cons (.ite (.cmp .ne (.blt .len (.var 7)) (.call "_law_fewest" (.cons (.var 4) (.cons (.var 1) (.cons (.var 6) .nil))) [] .nil)) (.cons (.ret (.bl false))
    .nil) .nil)
    .nil))))
    .nil))))
    (.cons (.set 3 (.bin .add (.lc [2] (.one 2) (.rng (.int 6)) .yes (.bin .mul (.int 7) (.var 2))) (.lst (.cons (.int 50) (.cons (.int 60) (.cons (.int 98) (.cons (.int 99) (.cons (.int 11) (.cons (.int 12) .nil)))))))))
    (.cons (.for_ (.one 2) (.rng (.int 6)) (.cons (.set 4 (.call "_law_moves" (.cons (.call "_law_cell_at" (.cons (.var 0) (.cons (.bin .add (.int 4) (.var 2)) .nil)) [] .nil) (.cons (.int 10) (.cons (.slc (.var 3) .nil (.itr (.bin .add (.int 3) (.bin .mod (.call "_law_cell_at" (.cons (.var 0) (.cons (.bin .add (.int 10) (.var 2)) .nil)) [] .nil) (.int 10))))) .nil))) [] .nil))
    (.cons (.unp [8, 9, 10] (.call "_law_rings" (.cons (.var 4) .nil) [] .nil))
    (.cons (.set 7 (.call "together" (.cons (.var 4) .nil) ["spare"] (.cons .non .nil)))
    (.cons (.ite (.or_ (.nt (.call "_law_right" (.cons (.var 4) (.cons (.var 3) (.cons .non (.cons (.var 7) .nil)))) [] .nil)) (.cmp .ne (.blt .len (.var 7)) (.bin .sub (.var 10) (.var 8)))) (.cons (.ret (.bl false))
    .nil) .nil)
    (.cons (.set 7 (.call "together" (.cons (.var 4) .nil) ["spare"] (.cons (.int 70) .nil)))
    (.cons (.ite (.or_ (.nt (.call "_law_right" (.cons (.var 4) (.cons (.var 3) (.cons (.int 70) (.cons (.var 7) .nil)))) [] .nil)) (.cmp .ne (.blt .len (.var 7)) (.bin .add (.var 10) (.var 9)))) (.cons (.ret (.bl false))
    .nil) .nil)
    .nil)))))))
    (.cons (.ite (.or_ (.cmp .ne (.blt .len (.call "together" (.cons (.lst (.cons (.tup (.cons (.int 1) (.cons (.int 2) .nil))) (.cons (.tup (.cons (.int 2) (.cons (.int 1) .nil))) .nil))) .nil) ["spare"] (.cons (.int 0) .nil))) (.int 3)) (.cmp .ne (.blt .len (.call "together" (.cons (.lst (.cons (.tup (.cons (.int 98) (.cons (.int 0) .nil))) (.cons (.tup (.cons (.int 0) (.cons (.int 98) .nil))) .nil))) .nil) ["spare"] (.cons (.int 99) .nil))) (.int 3))) (.cons (.ret (.bl false))
    .nil) .nil)
    (.cons (.ret (.and_ (.cmp .eq (.call "together" (.cons (.lst .nil) .nil) [] .nil) (.lst .nil)) (.cmp .eq (.call "together" (.cons (.lst (.cons (.tup (.cons (.int 3) (.cons (.int 3) .nil))) .nil)) .nil) ["spare"] (.cons (.int 4) .nil)) (.lst .nil))))
    .nil))))))
def d_law : Dfn := ⟨"law", topS 21, ["_law_script", "_law_few", "_law_k", "_law_many", "_law_moves_here", "_law_handed", "_law_spare_at", "_law_rows", "_law_rings_here", "_law_pure", "_law_count"], ["_law_script"], [], none, b_law⟩
theorem t_law : trSs 60 ⟨d_law.N, defScope (topS 21), defScope (topS 21)⟩ 60 (defBody (topS 21)) = some b_law := by decide +kernel
theorem s_law : FnScope d_law.N d_law.ps (defScope (topS 21)) := ⟨rfl, rfl, rfl, by decide +kernel, rfl, by decide +kernel, by decide +kernel⟩
end K7

set_option Elab.async false
set_option linter.all false
set_option maxRecDepth 100000
set_option maxHeartbeats 4000000
/-! k07, part B: the table. -/
namespace K7
open PySem PySem.Spec PyProof.Rows L2 PV
def defsL : List Dfn := [d_is_number, d_is_move, d_ring_from, d_rows_for_ring, d_together, d_law_cell_at, d_law_numbers, d_law_moves, d_law_done, d_law_right, d_law_rings, d_law_fewest, d_law_steps, d_law]
def T (x : Str) : Option Dfn := defsL.find? fun t => decide (t.nm = x)
def G (x : Str) : Option D := if x = "PLACES" then some (.int 99) else if x = "MOST" then some (.int 10) else none
def W : Nat := 1000000
def CC (k : Nat) : Str → List D → List Str → List D → Option (Nat × D) := callD T G W k
end K7

set_option Elab.async false
set_option linter.all false
set_option maxRecDepth 100000
set_option maxHeartbeats 4000000
/-! k07, part C: rules for loops over data; the small defs. -/
namespace PV
open PySem PySem.Spec PyProof.Rows L2
section
variable {c : Env → Option Bool} {f : Env → Option Out} {P : Option Out → Prop}
/-- a while loop: m falls -/
theorem whl_rule (J : Nat → Env → Prop) (h : ∀ m ρ, J m ρ → (c ρ = some false ∧ P (some (.nx ρ))) ∨ (c ρ = some true ∧ ((∃ ρ' m', m' < m ∧ J m' ρ' ∧ f ρ = some (.nx ρ')) ∨ (∃ k d, f ρ = some (.rt k d) ∧ P (some (.rt k d)))))) :
    ∀ n m ρ, m < n → J m ρ → P (whlL c f n ρ)
  | 0, m, ρ, hm, _ => absurd hm (Nat.not_lt_zero m)
  | n + 1, m, ρ, hm, hj => by
    unfold whlL
    rcases h m ρ hj with ⟨h1, h2⟩ | ⟨h1, ⟨ρ', m', h2, h3, h4⟩ | ⟨k, d, h2, h3⟩⟩
    · rw [h1]; exact h2
    · rw [h1]; dsimp only; rw [h4]; exact whl_rule J h n m' ρ' (by omega) h3
    · rw [h1]; dsimp only; rw [h2]; exact h3
theorem for_rule {tg : Tg} (J : List D → Env → Prop) (h0 : ∀ ρ, J [] ρ → P (some (.nx ρ))) (h : ∀ d ds ρ, J (d :: ds) ρ → ∃ ρ1, asgE tg d ρ = some ρ1 ∧ ((∃ ρ', f ρ1 = some (.nx ρ') ∧ J ds ρ') ∨ (∃ k d, f ρ1 = some (.rt k d) ∧ P (some (.rt k d))))) :
    ∀ ds ρ, J ds ρ → P (forL tg f ds ρ)
  | [], ρ, hj => h0 ρ hj
  | d :: ds, ρ, hj => by
    unfold forL
    obtain ⟨ρ1, h1, ⟨ρ', h2, h3⟩ | ⟨k, e, h2, h3⟩⟩ := h d ds ρ hj
    · rw [h1]; dsimp only; rw [h2]; exact for_rule J h0 h ds ρ' h3
    · rw [h1]; dsimp only; rw [h2]; exact h3
end
/-! ### steps of the meaning -/
section
variable {C : Str → List D → List Str → List D → Option (Nat × D)} {G : Str → Option D} {w : Nat} {e : Exp} {ρ ρ' : Env} {k : Nat} {d : D} {a b : Sta} {i : Nat}
theorem evS_ns (h : ev C G e (expose (fv e) 0 ρ) = some (k, d)) (hn : nosh k d = true) : evS C G e ρ = some (k, d, ρ) := by
  unfold evS
  rw [h]
  dsimp only
  rw [if_pos hn]
theorem evS_fz (h : ev C G e (expose (fv e) 0 ρ) = some (k, d)) (hn : nosh k d = false) : evS C G e ρ = some (k, d, freeze (fv e) 0 ρ) := by
  unfold evS
  rw [h]
  dsimp only
  rw [if_neg (by rw [hn]; exact Bool.false_ne_true)]
theorem evB_of {c : Bool} (h : ev C G e (expose (fv e) 0 ρ) = some (k, .bl c)) : evB C G e ρ = some c := by
  unfold evB
  rw [h]
theorem ex_nx (h : PV.exec C G w a ρ = some (Out.nx ρ')) : PV.exec C G w (.cons a b) ρ = PV.exec C G w b ρ' := by
  show (match PV.exec C G w a ρ with | some (Out.nx ρ') => PV.exec C G w b ρ' | some o => some o | none => none) = _
  rw [h]
theorem ex_rt (h : PV.exec C G w a ρ = some (Out.rt k d)) : PV.exec C G w (.cons a b) ρ = some (Out.rt k d) := by
  show (match PV.exec C G w a ρ with | some (Out.nx ρ') => PV.exec C G w b ρ' | some o => some o | none => none) = _
  rw [h]
theorem ex_nil : PV.exec C G w .nil ρ = some (Out.nx ρ) := rfl
theorem ex_set (h : evS C G e ρ = some (k, d, ρ')) : PV.exec C G w (.set i e) ρ = some (Out.nx (ρ'.set i (some (k, d)))) := by
  show (match evS C G e ρ with | some (k, d, ρ') => some (Out.nx (ρ'.set i (some (k, d)))) | none => none) = _
  rw [h]
theorem ex_ret (h : evS C G e ρ = some (k, d, ρ')) : PV.exec C G w (.ret e) ρ = some (Out.rt k d) := by
  show (match evS C G e ρ with | some (k, d, _) => some (Out.rt k d) | none => none) = _
  rw [h]
theorem ex_true (h : evB C G e ρ = some true) : PV.exec C G w (.ite e a b) ρ = PV.exec C G w a ρ := by
  show (match evB C G e ρ with | some true => PV.exec C G w a ρ | some false => PV.exec C G w b ρ | none => none) = _
  rw [h]
theorem ex_false (h : evB C G e ρ = some false) : PV.exec C G w (.ite e a b) ρ = PV.exec C G w b ρ := by
  show (match evB C G e ρ with | some true => PV.exec C G w a ρ | some false => PV.exec C G w b ρ | none => none) = _
  rw [h]
theorem ex_app {xs0 xs : List D} (h0 : ρ[i]? = some (some (1, .lst xs0))) (h : evS C G e ρ = some (k, d, ρ')) (hx : ρ'[i]? = some (some (1, .lst xs))) (hl : xs.length < cap) : PV.exec C G w (.app i e) ρ = some (Out.nx (ρ'.set i (some (1, .lst (xs ++ [d]))))) := by
  show (match ρ[i]? with
    | some (some (1, .lst _)) => match evS C G e ρ with
      | some (_, d, ρ') => match ρ'[i]? with
        | some (some (1, .lst xs)) => if xs.length < cap then some (Out.nx (ρ'.set i (some (1, .lst (xs ++ [d]))))) else none
        | _ => none
      | none => none
    | _ => none) = _
  simp only [h0, h, hx, if_pos hl]
theorem ex_ext {xs0 xs ys : List D} (h0 : ρ[i]? = some (some (1, .lst xs0))) (h : evS C G e ρ = some (k, .lst ys, ρ')) (hx : ρ'[i]? = some (some (1, .lst xs))) (hl : xs.length + ys.length ≤ cap) : PV.exec C G w (.ext i e) ρ = some (Out.nx (ρ'.set i (some (1, .lst (xs ++ ys))))) := by
  show (match ρ[i]? with
    | some (some (1, .lst _)) => match evS C G e ρ with
      | some (_, .lst ys, ρ') => match ρ'[i]? with
        | some (some (1, .lst xs)) => if xs.length + ys.length ≤ cap then some (Out.nx (ρ'.set i (some (1, .lst (xs ++ ys))))) else none
        | _ => none
      | _ => none
    | _ => none) = _
  simp only [h0, h, hx, if_pos hl]
theorem ex_seti {ke : Exp} {k2 : Nat} {y d0 d' : D} {ρ2 : Env} (h : evS C G e ρ = some (k, d, ρ')) (hk : evS C G ke ρ' = some (k2, y, ρ2)) (hx : ρ2[i]? = some (some (1, d0))) (hp : putAt d0 y d = some d') : PV.exec C G w (.seti i ke e) ρ = some (Out.nx (ρ2.set i (some (1, d')))) := by
  show (match evS C G e ρ with
    | some (_, v, ρ1) => match evS C G ke ρ1 with
      | some (_, y, ρ2) => match ρ2[i]? with
        | some (some (1, d)) => match putAt d y v with
          | some d' => some (Out.nx (ρ2.set i (some (1, d'))))
          | none => none
        | _ => none
      | none => none
    | none => none) = _
  simp only [h, hk, hx, hp]
theorem ex_popd {kvs0 : List (Key × D)} {y d0 v d' : D} (h0 : ρ[i]? = some (some (1, .dic kvs0))) (h : evS C G e ρ = some (k, y, ρ')) (hx : ρ'[i]? = some (some (1, d0))) (hp : popAt d0 y = some (v, d')) : PV.exec C G w (.popd i e) ρ = some (Out.nx (ρ'.set i (some (1, d')))) := by
  show (match ρ[i]? with
    | some (some (1, .dic _)) => match evS C G e ρ with
      | some (_, y, ρ1) => match ρ1[i]? with
        | some (some (1, d)) => match popAt d y with
          | some (_, d') => some (Out.nx (ρ1.set i (some (1, d'))))
          | none => none
        | _ => none
      | none => none
    | _ => none) = _
  simp only [h0, h, hx, hp]
theorem ex_popx {j : Nat} {kvs0 : List (Key × D)} {y d0 v d' : D} (h0 : ρ[i]? = some (some (1, .dic kvs0))) (h : evS C G e ρ = some (k, y, ρ')) (hx : ρ'[i]? = some (some (1, d0))) (hp : popAt d0 y = some (v, d')) : PV.exec C G w (.popx j i e) ρ = some (Out.nx ((ρ'.set i (some (1, d'))).set j (some (0, v)))) := by
  show (match ρ[i]? with
    | some (some (1, .dic _)) => match evS C G e ρ with
      | some (_, y, ρ1) => match ρ1[i]? with
        | some (some (1, d)) => match popAt d y with
          | some (v, d') => some (Out.nx ((ρ1.set i (some (1, d'))).set j (some (0, v))))
          | none => none
        | _ => none
      | none => none
    | _ => none) = _
  simp only [h0, h, hx, hp]
theorem ex_for {tg : Tg} {it : Exp} {ds : List D} (hn : isDicE C G it (expose (fv it) 0 ρ) = false) (h : evI C G it (expose (fv it) 0 ρ) = some ds) : PV.exec C G w (.for_ tg it a) ρ = forL tg (fun r => PV.exec C G w a r) ds (freeze (fv it) 0 ρ) := by
  show (match evW C G it ρ with | some (ds, ρ') => forL tg (fun r => PV.exec C G w a r) ds ρ' | none => none) = _
  unfold evW
  rw [if_neg (by rw [hn]; exact Bool.false_ne_true), h]
theorem ex_par {j : Nat} {e2 : Exp} {k2 : Nat} {d2 : D} {ρ2 : Env} (h : evS C G e ρ = some (k, d, ρ')) (h2 : evS C G e2 ρ' = some (k2, d2, ρ2)) : PV.exec C G w (.par i j e e2) ρ = some (Out.nx ((ρ2.set i (some (0, d))).set j (some (0, d2)))) := by
  show (match evS C G e ρ with
    | some (_, d, ρ1) => match evS C G e2 ρ1 with
      | some (_, e, ρ2) => some (Out.nx ((ρ2.set i (some (0, d))).set j (some (0, e))))
      | none => none
    | none => none) = _
  rw [h]; dsimp only; rw [h2]
theorem ex_unp {is : List Nat} {ds : List D} (h : evS C G e ρ = some (k, .tup ds, ρ')) (hl : ds.length = is.length) : PV.exec C G w (.unp is e) ρ = some (Out.nx (asgEs is ds ρ')) := by
  show (match evS C G e ρ with
    | some (_, .tup ds, ρ') => if ds.length = is.length then some (Out.nx (asgEs is ds ρ')) else none
    | _ => none) = _
  rw [h]; dsimp only; rw [if_pos hl]
end
/-- a list comprehension -/
theorem lc_rule {α : Type} {tg : Tg} {t g : Ro → Option (Nat × D)} {ρ : Ro} (q : α → D) (c : α → Bool) (r : α → D) : ∀ {xs : List α}, (∀ x ∈ xs, ∃ ρ1, asg tg (q x) ρ = some ρ1 ∧ (∃ k, t ρ1 = some (k, .bl (c x))) ∧ (c x = true → ∃ k, g ρ1 = some (k, r x))) →
    lcL tg t g ρ (xs.map q) = some ((xs.filter c).map r)
  | [], _ => rfl
  | x :: xs, h => by
    obtain ⟨ρ1, h1, ⟨k, h2⟩, h3⟩ := h x (List.mem_cons_self ..)
    have ih := lc_rule q c r (tg := tg) (t := t) (g := g) (ρ := ρ) (xs := xs) fun y hy => h y (List.mem_cons_of_mem _ hy)
    show (match asg tg (q x) ρ with | none => none | some ρ1 => match t ρ1 with
      | some (_, .bl true) => match g ρ1 with
        | some (_, y) => match lcL tg t g ρ (xs.map q) with
          | some ys => some (y :: ys)
          | none => none
        | none => none
      | some (_, .bl false) => lcL tg t g ρ (xs.map q)
      | _ => none) = _
    rw [h1]
    dsimp only
    rw [h2, ih]
    cases hc : c x with
    | true =>
      obtain ⟨k', h4⟩ := h3 hc
      dsimp only
      rw [h4, List.filter_cons_of_pos hc]
      rfl
    | false =>
      dsimp only
      rw [List.filter_cons_of_neg (by rw [hc]; exact Bool.false_ne_true)]
theorem lc_all {α : Type} {tg : Tg} {g : Ro → Option (Nat × D)} {ρ : Ro} (q : α → D) (r : α → D) {xs : List α} (h : ∀ x ∈ xs, ∃ ρ1, asg tg (q x) ρ = some ρ1 ∧ ∃ k, g ρ1 = some (k, r x)) :
    lcL tg (fun _ => some (0, .bl true)) g ρ (xs.map q) = some (xs.map r) := by
  have := lc_rule (tg := tg) (t := fun _ => some (0, .bl true)) (g := g) (ρ := ρ) q (fun _ => true) r (xs := xs) fun x hx => by
    obtain ⟨ρ1, h1, h2⟩ := h x hx
    exact ⟨ρ1, h1, ⟨0, rfl⟩, fun _ => h2⟩
  rw [this, List.filter_eq_self.mpr fun _ _ => rfl]
theorem ev_lc {C : Str → List D → List Str → List D → Option (Nat × D)} {G : Str → Option D} {own : List Nat} {tg : Tg} {it cond elt : Exp} {ρ : Ro} {ds ys : List D} (h1 : evI C G it ρ = some ds) (h2 : lcL tg (fun r => ev C G cond r) (fun r => ev C G elt r) (wipeR ρ own) ds = some ys) : ev C G (.lc own tg it cond elt) ρ = some (1, .lst ys) := by
  rw [ev, h1]
  dsimp only
  rw [h2]; rfl
theorem bools_map {α : Type} (f : α → Bool) : ∀ xs : List α, bools (xs.map fun x => .bl (f x)) = some (xs.map f)
  | [] => rfl
  | x :: xs => by
    show (bools (xs.map fun x => .bl (f x))).map (f x :: ·) = _
    rw [bools_map f xs]; rfl
end PV
namespace K7
open PySem PySem.Spec PyProof.Rows L2 PV
theorem cc_succ (k : Nat) (f : Str) (ds : List D) (ks : List Str) (es : List D) : CC (k + 1) f ds ks es = (match T f with
    | some t => match bindD t ds ks es with
      | some as => runD (CC k) G W t as
      | none => none
    | none => none) := rfl
end K7
namespace PV
open PySem PySem.Spec PyProof.Rows L2
/-! ### data of numbers -/
def pr (p : Int × Int) : D := .tup [.int p.1, .int p.2]
def mvD (ms : List (Int × Int)) : D := .lst (ms.map pr)
def inL (xs : List Int) : D := .lst (xs.map D.int)
def kv (p : Int × Int) : Key × D := (.inl p.1, .int p.2)
def dicI (L : List (Int × Int)) : D := .dic (L.map kv)
def look (L : List (Int × Int)) (a : Int) : Option Int := (L.find? fun p => decide (p.1 = a)).map (·.2)
theorem eqd_int (a b : Int) : eqD (.int a) (.int b) = some (a == b) := by
  show (if SeqAt.shaped (toPy (.int a)) = true ∧ SeqAt.shaped (toPy (.int b)) = true then some (PyData.eqv (toPy (.int a)) (toPy (.int b))) else none) = _
  rw [if_pos ⟨rfl, rfl⟩]; rfl
theorem lay_map {α : Type} (q : α → D) (h : ∀ x, (toPy (q x)).canLay0 = true ∧ (toPy (q x)).depth ≤ 1) : ∀ xs : List α, PyData.canLayAll0 (toPys (xs.map q)) = true ∧ PyData.depthAll (toPys (xs.map q)) ≤ 1
  | [] => ⟨rfl, Nat.zero_le _⟩
  | x :: xs => by
    obtain ⟨h1, h2⟩ := h x
    obtain ⟨i1, i2⟩ := lay_map q h xs
    show (PyData.canLay0 (toPy (q x)) && PyData.canLayAll0 (toPys (xs.map q))) = true ∧ max (PyData.depth (toPy (q x))) (PyData.depthAll (toPys (xs.map q))) ≤ 1
    rw [h1, i1]
    exact ⟨rfl, by omega⟩
theorem shaped_map {α : Type} (q : α → D) (h : ∀ x, (toPy (q x)).canLay0 = true ∧ (toPy (q x)).depth ≤ 1) (xs : List α) : SeqAt.shaped (toPy (.lst (xs.map q))) = true := by
  obtain ⟨h1, h2⟩ := lay_map q h xs
  show (PyData.canLayAll0 (toPys (xs.map q)) && decide (PyData.depthAll (toPys (xs.map q)) + 1 ≤ 64)) = true
  rw [h1, decide_eq_true (by omega)]; rfl
theorem shaped_mv (ms : List (Int × Int)) : SeqAt.shaped (toPy (mvD ms)) = true := shaped_map pr (fun _ => ⟨rfl, Nat.le_refl 1⟩) ms
theorem shaped_in (ms : List Int) : SeqAt.shaped (toPy (inL ms)) = true := shaped_map D.int (fun _ => ⟨rfl, Nat.zero_le 1⟩) ms
theorem eqv_nil (xs : List D) : PyData.eqv (toPy (.lst xs)) (toPy (.lst [])) = xs.isEmpty := by
  cases xs <;> rfl
theorem eqd_nil {xs : List D} (h : SeqAt.shaped (toPy (.lst xs)) = true) : eqD (.lst xs) (.lst []) = some xs.isEmpty := by
  show (if SeqAt.shaped (toPy (.lst xs)) = true ∧ SeqAt.shaped (toPy (.lst [])) = true then some (PyData.eqv (toPy (.lst xs)) (toPy (.lst []))) else none) = _
  rw [if_pos ⟨h, by decide⟩, eqv_nil]
theorem eqd_in_nil (xs : List Int) : eqD (inL xs) (.lst []) = some xs.isEmpty := by
  rw [show inL xs = .lst (xs.map D.int) from rfl, eqd_nil (shaped_in xs)]
  cases xs <;> rfl
theorem eqd_mv_nil (xs : List (Int × Int)) : eqD (mvD xs) (.lst []) = some xs.isEmpty := by
  rw [show mvD xs = .lst (xs.map pr) from rfl, eqd_nil (shaped_mv xs)]
  cases xs <;> rfl
theorem eqv_prs : ∀ ms : List (Int × Int), PyData.eqvAll (toPys (ms.map pr)) (toPys (ms.map pr)) = true
  | [] => rfl
  | p :: ms => by
    show (((p.1 == p.1) && ((p.2 == p.2) && true)) && PyData.eqvAll (toPys (ms.map pr)) (toPys (ms.map pr))) = true
    rw [eqv_prs ms]; simp
theorem eqd_mv_self (ms : List (Int × Int)) : eqD (mvD ms) (mvD ms) = some true := by
  show (if SeqAt.shaped (toPy (mvD ms)) = true ∧ SeqAt.shaped (toPy (mvD ms)) = true then some (PyData.eqv (toPy (mvD ms)) (toPy (mvD ms))) else none) = _
  rw [if_pos ⟨shaped_mv ms, shaped_mv ms⟩]
  exact congrArg some (eqv_prs ms)
theorem flat_ints (xs : List Int) : (xs.map D.int).all flat = true := by
  rw [List.all_map]
  exact List.all_eq_true.mpr fun _ _ => rfl
theorem any_ints (a : Int) (xs : List Int) : ((xs.map D.int).any fun y => eqF y (.int a)) = decide (a ∈ xs) := by
  induction xs with
  | nil => rfl
  | cons x xs ih =>
    show ((x == a) || ((xs.map D.int).any fun y => eqF y (.int a))) = _
    rw [ih]
    by_cases h : x = a
    · subst h; simp
    · have : (x == a) = false := by simpa using h
      rw [this]
      simp [Ne.symm h]
theorem ind_in (a : Int) (xs : List Int) : inD (.int a) (inL xs) = some (decide (a ∈ xs)) := by
  show (if flat (.int a) = true ∧ (xs.map D.int).all flat = true then some ((xs.map D.int).any fun y => eqF y (.int a)) else none) = _
  rw [if_pos ⟨rfl, flat_ints xs⟩, any_ints]
theorem val_kv (L : List (Int × Int)) (a : Int) : valD (L.map kv) (Sum.inl a) = (look L a).map D.int := by
  unfold valD look
  induction L with
  | nil => rfl
  | cons p L ih =>
    rw [List.map_cons, List.find?_cons, List.find?_cons]
    by_cases h : p.1 = a
    · have e1 : decide ((kv p).1 = Sum.inl a) = true := decide_eq_true (congrArg Sum.inl h)
      have e2 : decide (p.1 = a) = true := decide_eq_true h
      rw [e1, e2]; rfl
    · have e1 : decide ((kv p).1 = Sum.inl a) = false := decide_eq_false fun z => h (Sum.inl.inj z)
      have e2 : decide (p.1 = a) = false := decide_eq_false h
      rw [e1, e2]; exact ih
theorem idx_dic (L : List (Int × Int)) (a : Int) : idxD (dicI L) (.int a) = (look L a).map D.int := val_kv L a
theorem drop_kv (L : List (Int × Int)) (a : Int) : dropD (L.map kv) (Sum.inl a) = (L.filter fun p => decide (p.1 ≠ a)).map kv := by
  unfold dropD
  rw [List.filter_map]
  congr 1
  refine congrArg (fun f => List.filter f L) (funext fun p => ?_)
  show decide ((kv p).1 ≠ Sum.inl a) = decide (p.1 ≠ a)
  refine decide_eq_decide.mpr ⟨fun h z => h (congrArg Sum.inl z), fun h z => h (Sum.inl.inj z)⟩
theorem ind_dic (a : Int) (L : List (Int × Int)) : inD (.int a) (dicI L) = some (look L a).isSome := by
  show some (valD (L.map kv) (Sum.inl a)).isSome = _
  rw [val_kv]
  cases look L a <;> rfl
theorem look_mem {L : List (Int × Int)} {a b : Int} (h : look L a = some b) : (a, b) ∈ L := by
  unfold look at h
  obtain ⟨p, h1, h2⟩ := Option.map_eq_some_iff.mp h
  have := List.find?_some h1
  have e : p.1 = a := of_decide_eq_true this
  subst e h2
  exact List.mem_of_find?_eq_some h1
theorem look_of {L : List (Int × Int)} (nd : (L.map (·.1)).Nodup) {a b : Int} (h : (a, b) ∈ L) : look L a = some b := by
  induction L with
  | nil => cases h
  | cons p L ih =>
    unfold look
    rw [List.find?_cons]
    rw [List.map_cons, List.nodup_cons] at nd
    rcases List.mem_cons.mp h with e | h
    · subst e
      rw [show decide ((a, b).1 = a) = true from decide_eq_true rfl]; rfl
    · have hne : p.1 ≠ a := fun e => nd.1 (by rw [e]; exact List.mem_map_of_mem (f := (·.1)) h)
      rw [show decide (p.1 = a) = false from decide_eq_false hne]
      exact ih nd.2 h
theorem look_iff {L : List (Int × Int)} (nd : (L.map (·.1)).Nodup) {a b : Int} : look L a = some b ↔ (a, b) ∈ L := ⟨look_mem, look_of nd⟩
theorem look_none {L : List (Int × Int)} {a : Int} : look L a = none ↔ a ∉ L.map (·.1) := by
  unfold look
  rw [Option.map_eq_none_iff, List.find?_eq_none]
  constructor
  · intro h z
    obtain ⟨p, h1, h2⟩ := List.mem_map.mp z
    exact h p h1 (decide_eq_true h2)
  · intro h p hp z
    exact h (List.mem_map.mpr ⟨p, hp, of_decide_eq_true z⟩)
theorem imms_map {α : Type} (q : α → D) (h : ∀ x, imm (q x) = true) : ∀ xs : List α, (xs.map q).all (nosh 0) = true
  | [] => rfl
  | x :: xs => by
    rw [List.map_cons, List.all_cons, imms_map q h xs]
    show (imm (q x) && true) = true
    rw [h x]; rfl
theorem nosh_in (xs : List Int) : nosh 1 (inL xs) = true := imms_map D.int (fun _ => rfl) xs
theorem nosh_mv (xs : List (Int × Int)) : nosh 1 (mvD xs) = true := imms_map pr (fun _ => rfl) xs
theorem nosh_dic (L : List (Int × Int)) : nosh 1 (dicI L) = true := by
  show ((L.map kv).all fun p => nosh 0 p.2) = true
  rw [List.all_map]
  exact List.all_eq_true.mpr fun _ _ => rfl
end PV
namespace K7
open PySem PySem.Spec PyProof.Rows L2 PV
theorem is_number_ok (k : Nat) {a : Int} (h1 : 0 ≤ a) (h2 : a ≤ 99) : CC (k + 1) "is_number" [.int a, .int 0, .int 99] [] [] = some (0, .bl true) := by
  show runD (CC k) G W d_is_number [.int a, .int 0, .int 99] = _
  have e1 : decide ((0 : Int) ≤ a) = true := decide_eq_true h1
  have e2 : decide (a ≤ 99) = true := decide_eq_true h2
  simp [runD, d_is_number, b_is_number, PV.exec, evS, ev, fv, env0, expose, bltD, cmpD, e1, e2, h1, h2]
theorem is_move_ok (k : Nat) {p : Int × Int} (h1 : 0 ≤ p.1) (h2 : p.1 ≤ 99) (h3 : 0 ≤ p.2) (h4 : p.2 ≤ 99) : CC (k + 2) "is_move" [pr p] [] [] = some (0, .bl true) := by
  show runD (CC (k + 1)) G W d_is_move [pr p] = _
  have e1 := is_number_ok k h1 h2
  have e2 := is_number_ok k h3 h4
  simp [runD, d_is_move, b_is_move, PV.exec, evS, ev, evs, evI, fv, env0, expose, bltD, cmpD, pr, lenD, eqd_int, wipeR, lcL, asg, G, e1, e2, bools]
end K7

set_option Elab.async false
set_option linter.all false
set_option maxRecDepth 100000
set_option maxHeartbeats 4000000
/-! k07, part D: ring_from, rows_for_ring. -/
namespace K7
open PySem PySem.Spec PyProof.Rows L2 PV
/-- from the first on, each leads to the next, the last to p, none between is p -/
def Chain (L : List (Int × Int)) (p : Int) : List Int → Prop
  | [] => False
  | [z] => look L z = some p
  | x :: y :: t => look L x = some y ∧ y ≠ p ∧ Chain L p (y :: t)
theorem ati_last {xs : List Int} {x : Int} : atI ((xs ++ [x]).map D.int) (-1) = some (.int x) := by
  rw [List.map_append]
  exact atI_last _ _
theorem ring_from_ok (k : Nat) {L : List (Int × Int)} {p : Int} {t : List Int} (h : Chain L p (p :: t)) (hl : t.length < 1000) : CC (k + 1) "ring_from" [dicI L, .int p] [] [] = some (1, inL (p :: t)) := by
  show runD (CC k) G W d_ring_from [dicI L, .int p] = _
  unfold runD
  have key : PV.exec (CC k) G W d_ring_from.body (env0 d_ring_from.N [dicI L, .int p]) = (match PV.exec (CC k) G W (.whl (.cmp .ne (.idx (.var 0) (.idx (.var 2) (.neg (.int 1)))) (.var 1)) (.cons (.app 2 (.idx (.var 0) (.idx (.var 2) (.neg (.int 1))))) .nil)) [some (0, dicI L), some (0, .int p), some (1, inL [p])] with
    | some (.nx ρ') => PV.exec (CC k) G W (.cons (.retv 2) .nil) ρ'
    | some o => some o
    | none => none) := rfl
  rw [key]
  have hw : PV.exec (CC k) G W (.whl (.cmp .ne (.idx (.var 0) (.idx (.var 2) (.neg (.int 1)))) (.var 1)) (.cons (.app 2 (.idx (.var 0) (.idx (.var 2) (.neg (.int 1))))) .nil)) [some (0, dicI L), some (0, .int p), some (1, inL [p])] = some (.nx [some (0, dicI L), some (0, .int p), some (1, inL (p :: t))]) := by
    refine whl_rule (P := fun o => o = some (.nx [some (0, dicI L), some (0, .int p), some (1, inL (p :: t))])) (fun m ρ => ∃ pre x t', pre ++ x :: t' = p :: t ∧ Chain L p (x :: t') ∧ m = t'.length ∧ ρ = [some (0, dicI L), some (0, .int p), some (1, inL (pre ++ [x]))]) ?_ W t.length _ (by show t.length < 1000000; omega) ⟨[], p, t, rfl, h, rfl, rfl⟩
    rintro m ρ ⟨pre, x, t', e1, hc, rfl, rfl⟩
    have hidx : idxD (inL (pre ++ [x])) (.int (-1)) = some (.int x) := ati_last
    cases t' with
    | nil =>
      left
      have hx : look L x = some p := hc
      refine ⟨?_, ?_⟩
      · simp [evB, ev, fv, expose, hidx, idx_dic, hx, cmpD, eqd_int]
      · rw [← e1]
    | cons y t'' =>
      right
      obtain ⟨hx, hne, hc'⟩ : look L x = some y ∧ y ≠ p ∧ Chain L p (y :: t'') := hc
      refine ⟨?_, .inl ⟨[some (0, dicI L), some (0, .int p), some (1, inL (pre ++ [x] ++ [y]))], t''.length, Nat.lt_succ_self _, ⟨pre ++ [x], y, t'', by rw [← e1]; simp, hc', rfl, rfl⟩, ?_⟩⟩
      · simp [evB, ev, fv, expose, hidx, idx_dic, hx, cmpD, eqd_int, hne]
      · have hlen : (pre ++ [x]).length < cap := by
          have := congrArg List.length e1
          simp at this
          show _ < 100000
          simp; omega
        have hl2 : ((pre ++ [x]).map D.int).length < cap := by rw [List.length_map]; exact hlen
        have he : ev (CC k) G (.idx (.var 0) (.idx (.var 2) (.neg (.int 1)))) [some (dicI L), some (.int p), some (inL (pre ++ [x]))] = some (0, .int y) := by
          simp [ev, hidx, idx_dic, hx]
        refine (ex_nx (ex_app (i := 2) rfl (evS_ns he rfl) rfl hl2)).trans ?_
        rw [show inL (pre ++ [x] ++ [y]) = .lst ((pre ++ [x]).map D.int ++ [.int y]) by simp [inL]]
        rfl
  rw [hw]
  rfl
end K7

set_option Elab.async false
set_option linter.all false
set_option maxRecDepth 100000
set_option maxHeartbeats 4000000
/-! k07, part E: rows_for_ring. -/
namespace PV
open PySem PySem.Spec PyProof.Rows L2
theorem cut_drop {α : Type} (xs : List α) (n : Nat) : cutL xs (some (n : Int)) none = xs.drop n := by
  unfold cutL
  rw [HT.sIx_nat, HT.sIx_none]
  by_cases h : n ≤ xs.length
  · rw [Nat.min_eq_left h]
    exact List.take_of_length_le (by rw [List.length_drop]; omega)
  · rw [Nat.min_eq_right (by omega), Nat.sub_self, List.take_zero, List.drop_of_length_le (by omega)]
theorem cut_take {α : Type} (xs : List α) (n : Nat) : cutL xs none (some (n : Int)) = xs.take n := by
  unfold cutL
  rw [HT.sIx_nat, HT.sIx_none, List.drop_zero, Nat.sub_zero]
  by_cases h : n ≤ xs.length
  · rw [Nat.min_eq_left h]
  · rw [Nat.min_eq_right (by omega), List.take_of_length_le (Nat.le_refl _), List.take_of_length_le (by omega)]
theorem cut_init {α : Type} (xs : List α) : cutL xs none (some (-1)) = xs.dropLast := by
  unfold cutL
  rw [HT.sIx_none, List.drop_zero, Nat.sub_zero, List.dropLast_eq_take]
  congr 1
  unfold HT.sIx
  simp
  omega
theorem zip_in : ∀ (xs ys : List Int), zipD (xs.map D.int) (ys.map D.int) = (xs.zip ys).map pr
  | [], _ => rfl
  | x :: xs, [] => rfl
  | x :: xs, y :: ys => by
    show D.tup [.int x, .int y] :: zipD (xs.map D.int) (ys.map D.int) = _
    rw [zip_in xs ys]; rfl
theorem slc_drop (xs : List Int) (n : Nat) : slcD (inL xs) (some (n : Int)) none = some (1, inL (xs.drop n)) := by
  show some (1, D.lst (cutL (xs.map D.int) (some (n : Int)) none)) = _
  rw [cut_drop, ← List.map_drop]; rfl
theorem slc_take (xs : List Int) (n : Nat) : slcD (inL xs) none (some (n : Int)) = some (1, inL (xs.take n)) := by
  show some (1, D.lst (cutL (xs.map D.int) none (some (n : Int)))) = _
  rw [cut_take, ← List.map_take]; rfl
theorem slc_init (xs : List Int) : slcD (inL xs) none (some (-1)) = some (1, inL xs.dropLast) := by
  show some (1, D.lst (cutL (xs.map D.int) none (some (-1)))) = _
  rw [cut_init, ← List.map_dropLast]; rfl
theorem add_in {xs ys : List Int} (h : xs.length + ys.length ≤ cap) : addD (inL xs) (inL ys) = some (1, inL (xs ++ ys)) := by
  show (if (xs.map D.int).length + (ys.map D.int).length ≤ cap then some (1, D.lst (xs.map D.int ++ ys.map D.int)) else none) = _
  rw [if_pos (by rw [List.length_map, List.length_map]; exact h), ← List.map_append]; rfl
/-- a row -/
structure Rw where
  sw : Bool
  a : Int
  b : Int
def word (b : Bool) : Str := if b then "swap" else "move"
def rwD (r : Rw) : D := .tup [.str (word r.sw), .int r.a, .int r.b]
def rowsD (rs : List Rw) : D := .lst (rs.map rwD)
theorem add_rows {xs ys : List Rw} (h : xs.length + ys.length ≤ cap) : addD (rowsD xs) (rowsD ys) = some (1, rowsD (xs ++ ys)) := by
  show (if (xs.map rwD).length + (ys.map rwD).length ≤ cap then some (1, D.lst (xs.map rwD ++ ys.map rwD)) else none) = _
  rw [if_pos (by rw [List.length_map, List.length_map]; exact h), ← List.map_append]; rfl
theorem nosh_rows (xs : List Rw) : nosh 1 (rowsD xs) = true := imms_map rwD (fun _ => rfl) xs
end PV
namespace K7
open PySem PySem.Spec PyProof.Rows L2 PV
def spD' : Option Int → D
  | none => .non
  | some s => .int s
/-- rows along a list -/
def along (sw : Bool) (r : List Int) : List Rw := (r.zip (r.drop 1)).map fun p => ⟨sw, p.1, p.2⟩
theorem along_len (sw : Bool) (r : List Int) : (along sw r).length = r.length - 1 := by
  unfold along
  rw [List.length_map, List.length_zip, List.length_drop]; omega
def lcE (i : Nat) (wd : Str) : Exp := .lc [8, 9] (.many [8, 9]) (.zp (.var i) (.slc (.var i) (.itr (.int 1)) .nil)) .yes (.tup (.cons (.str wd) (.cons (.var 8) (.cons (.var 9) .nil))))
theorem along_ev (k : Nat) {i : Nat} {ρ : Ro} {r : List Int} (sw : Bool) (h : ρ[i]? = some (some (inL r))) (hl : 9 < ρ.length) : ev (CC k) G (lcE i (word sw)) ρ = some (1, rowsD (along sw r)) := by
  have h1 : evI (CC k) G (.zp (.var i) (.slc (.var i) (.itr (.int 1)) .nil)) ρ = some ((r.zip (r.drop 1)).map pr) := by
    have hs : slcD (inL r) (some 1) none = some (1, inL (r.drop 1)) := slc_drop r 1
    simp only [evI, ev, evO, h, hs]
    simp only [inL, zip_in]
  have h2 : lcL (.many [8, 9]) (fun r => ev (CC k) G .yes r) (fun r => ev (CC k) G (.tup (.cons (.str (word sw)) (.cons (.var 8) (.cons (.var 9) .nil)))) r) (wipeR ρ [8, 9]) ((r.zip (r.drop 1)).map pr) = some ((r.zip (r.drop 1)).map fun p => rwD ⟨sw, p.1, p.2⟩) := by
    refine lc_all (tg := .many [8, 9]) pr (fun p => rwD ⟨sw, p.1, p.2⟩) fun p _ => ⟨_, rfl, 0, ?_⟩
    have l8 : (wipeR ρ [8, 9]).length = ρ.length := by simp [wipeR]
    have l2 : 9 < (wipeR ρ [8, 9]).length := by rw [l8]; exact hl
    generalize wipeR ρ [8, 9] = ρ9 at l2
    have g8 : (asgs [8, 9] [.int p.1, .int p.2] ρ9)[8]? = some (some (.int p.1)) := by
      show ((ρ9.set 8 (some (.int p.1))).set 9 (some (.int p.2)))[8]? = _
      rw [List.getElem?_set_ne (by decide), List.getElem?_set_self (by omega)]
    have g9 : (asgs [8, 9] [.int p.1, .int p.2] ρ9)[9]? = some (some (.int p.2)) := by
      show ((ρ9.set 8 (some (.int p.1))).set 9 (some (.int p.2)))[9]? = _
      rw [List.getElem?_set_self (by rw [List.length_set]; omega)]
    simp only [ev, evs, g8, g9]
    rfl
  rw [show rowsD (along sw r) = .lst ((r.zip (r.drop 1)).map fun p => rwD ⟨sw, p.1, p.2⟩) by simp [rowsD, along]]
  exact ev_lc h1 h2
end K7

set_option Elab.async false
set_option linter.all false
set_option maxRecDepth 100000
set_option maxHeartbeats 4000000
/-! k07, part F: rows_for_ring. -/
namespace K7
open PySem PySem.Spec PyProof.Rows L2 PV
theorem rfr_none (k : Nat) (r : List Int) (kept : List (Int × Int)) : CC (k + 1) "rows_for_ring" [inL r, .non, dicI kept] [] [] = some (1, rowsD (along true r)) := by
  show runD (CC k) G W d_rows_for_ring [inL r, .non, dicI kept] = _
  unfold runD
  have h : PV.exec (CC k) G W d_rows_for_ring.body (env0 d_rows_for_ring.N [inL r, .non, dicI kept]) = some (.rt 1 (rowsD (along true r))) := by
    refine (ex_rt ?_)
    have hc : evB (CC k) G (.cmp .is_ (.var 1) .non) (env0 d_rows_for_ring.N [inL r, .non, dicI kept]) = some true := rfl
    refine (ex_true hc).trans (ex_rt (ex_ret (ρ' := _) (evS_ns ?_ (nosh_rows _))))
    exact along_ev k (i := 0) true rfl (Nat.lt_succ_self 9)
  rw [h]
def rowsE : Sta := (.cons (.ite (.cmp .isin (.var 5) (.var 2)) (.cons (.set 6 (.bin .add (.slc (.var 0) (.itr (.var 4)) .nil) (.slc (.var 0) .nil (.itr (.var 4)))))
    (.cons (.set 7 (.lc [8, 9] (.many [8, 9]) (.zp (.var 6) (.slc (.var 6) (.itr (.int 1)) .nil)) .yes (.tup (.cons (.str "move") (.cons (.var 8) (.cons (.var 9) .nil))))))
    (.cons (.ret (.bin .add (.var 7) (.lst (.cons (.tup (.cons (.str "move") (.cons (.idx (.var 6) (.neg (.int 1))) (.cons (.idx (.var 2) (.var 5)) .nil)))) .nil))))
    .nil))) .nil)
    .nil)
abbrev envR (r : List Int) (s : Int) (kept : List (Int × Int)) (x4 x5 : Option (Nat × D)) : PV.Env := [some (0, inL r), some (0, .int s), some (0, dicI kept), none, x4, x5, none, none, none, none]
theorem rfr_skip (k : Nat) {r : List Int} {s : Int} {kept : List (Int × Int)} {n x : Int} (h : look kept x = none) : PV.exec (CC k) G W rowsE (envR r s kept (some (0, .int n)) (some (0, .int x))) = some (.nx (envR r s kept (some (0, .int n)) (some (0, .int x)))) := by
  refine (ex_nx (ρ' := envR r s kept (some (0, .int n)) (some (0, .int x))) ?_).trans rfl
  refine (ex_false (evB_of (k := 0) ?_)).trans rfl
  show (match some (0, D.int x), some (0, dicI kept) with
    | some (_, x), some (_, y) => (cmpD .isin x y).map fun c => (0, D.bl c)
    | _, _ => none) = _
  show (inD (.int x) (dicI kept)).map (fun c => (0, D.bl c)) = _
  rw [ind_dic, h]; rfl
theorem rfr_hit (k : Nat) {pre post : List Int} {q : Int} {s c z : Int} {kept : List (Int × Int)} (h : look kept q = some c) (hl : (pre ++ q :: post).length ≤ 1000) (hz : ∃ u, q :: post ++ pre = u ++ [z]) :
    PV.exec (CC k) G W rowsE (envR (pre ++ q :: post) s kept (some (0, .int (pre.length : Nat))) (some (0, .int q))) = some (.rt 1 (rowsD (along false (q :: post ++ pre) ++ [⟨false, z, c⟩]))) := by
  obtain ⟨u, hu⟩ := hz
  refine ex_rt ?_
  have hc : evB (CC k) G (.cmp .isin (.var 5) (.var 2)) (envR (pre ++ q :: post) s kept (some (0, .int (pre.length : Nat))) (some (0, .int q))) = some true := by
    refine evB_of (k := 0) ?_
    show (inD (.int q) (dicI kept)).map (fun c => (0, D.bl c)) = _
    rw [ind_dic, h]; rfl
  refine (ex_true hc).trans ?_
  have hl' : (q :: post).length + pre.length ≤ cap := by
    rw [List.length_append] at hl
    show _ ≤ 100000
    omega
  have h6 : ev (CC k) G (.bin .add (.slc (.var 0) (.itr (.var 4)) .nil) (.slc (.var 0) .nil (.itr (.var 4)))) [some (inL (pre ++ q :: post)), some (.int s), some (dicI kept), none, some (.int (pre.length : Nat)), some (.int q), none, none, none, none] = some (1, inL (q :: post ++ pre)) := by
    have e1 : slcD (inL (pre ++ q :: post)) (some ((pre.length : Nat) : Int)) none = some (1, inL (q :: post)) := by rw [slc_drop, List.drop_left]
    have e2 : slcD (inL (pre ++ q :: post)) none (some ((pre.length : Nat) : Int)) = some (1, inL pre) := by rw [slc_take, List.take_left]
    simp only [ev, evO, List.getElem?_cons_zero, List.getElem?_cons_succ, e1, e2, binD]
    exact add_in hl'
  refine (ex_nx (ex_set (i := 6) (evS_ns h6 (nosh_in _)))).trans ?_
  have h7a := along_ev k (i := 6) (ρ := [some (inL (pre ++ q :: post)), some (.int s), some (dicI kept), none, some (.int (pre.length : Nat)), some (.int q), some (inL (q :: post ++ pre)), none, none, none]) (r := q :: post ++ pre) false rfl (Nat.lt_succ_self 9)
  refine (ex_nx (ex_set (i := 7) (evS_ns h7a (nosh_rows _)))).trans ?_
  refine ex_rt (ex_ret (ρ' := _) (evS_ns (k := 1) ?_ (nosh_rows _)))
  have h7 : ev (CC k) G (.bin .add (.var 7) (.lst (.cons (.tup (.cons (.str "move") (.cons (.idx (.var 6) (.neg (.int 1))) (.cons (.idx (.var 2) (.var 5)) .nil)))) .nil))) [some (inL (pre ++ q :: post)), some (.int s), some (dicI kept), none, some (.int (pre.length : Nat)), some (.int q), some (inL (q :: post ++ pre)), some (rowsD (along false (q :: post ++ pre))), none, none] = some (1, rowsD (along false (q :: post ++ pre) ++ [⟨false, z, c⟩])) := by
    have e1 : idxD (inL (q :: post ++ pre)) (.int (-1)) = some (.int z) := by rw [hu]; exact ati_last
    have e2 : idxD (dicI kept) (.int q) = some (.int c) := by rw [idx_dic, h]; rfl
    have e3 : addD (rowsD (along false (q :: post ++ pre))) (rowsD [⟨false, z, c⟩]) = some (1, rowsD (along false (q :: post ++ pre) ++ [⟨false, z, c⟩])) := add_rows (by rw [along_len, List.length_append]; show _ ≤ 100000; simp at *; omega)
    simp only [ev, evs, List.getElem?_cons_zero, List.getElem?_cons_succ, e1, e2, binD]
    exact e3
  exact h7
theorem enum_cons (n : Nat) (x : Int) (xs : List Int) : enumD n ((x :: xs).map D.int) = .tup [.int (n : Nat), .int x] :: enumD (n + 1) (xs.map D.int) := rfl
theorem rfr_kept (k : Nat) {pre post : List Int} {q : Int} {s c z : Int} {kept : List (Int × Int)} (hp : ∀ x ∈ pre, look kept x = none) (h : look kept q = some c) (hl : (pre ++ q :: post).length ≤ 1000) (hz : ∃ u, q :: post ++ pre = u ++ [z]) :
    CC (k + 1) "rows_for_ring" [inL (pre ++ q :: post), .int s, dicI kept] [] [] = some (1, rowsD (along false (q :: post ++ pre) ++ [⟨false, z, c⟩])) := by
  show runD (CC k) G W d_rows_for_ring [inL (pre ++ q :: post), .int s, dicI kept] = _
  unfold runD
  have hx : PV.exec (CC k) G W d_rows_for_ring.body (env0 d_rows_for_ring.N [inL (pre ++ q :: post), .int s, dicI kept]) = some (.rt 1 (rowsD (along false (q :: post ++ pre) ++ [⟨false, z, c⟩]))) := by
    refine (ex_nx (ρ' := envR (pre ++ q :: post) s kept none none) rfl).trans (ex_rt ?_)
    refine (ex_for (ds := enumD 0 ((pre ++ q :: post).map D.int)) rfl rfl).trans ?_
    show forL (.many [4, 5]) (fun r => PV.exec (CC k) G W rowsE r) (enumD 0 ((pre ++ q :: post).map D.int)) (envR (pre ++ q :: post) s kept none none) = _
    refine for_rule (tg := .many [4, 5]) (f := fun r => PV.exec (CC k) G W rowsE r) (P := fun o => o = some (.rt 1 (rowsD (along false (q :: post ++ pre) ++ [⟨false, z, c⟩])))) (fun ds ρ => ∃ p1 p2 x4 x5, pre = p1 ++ p2 ∧ ds = enumD p1.length ((p2 ++ q :: post).map D.int) ∧ ρ = envR (pre ++ q :: post) s kept x4 x5) ?_ ?_ _ _ ⟨[], pre, none, none, rfl, rfl, rfl⟩
    · rintro ρ ⟨p1, p2, x4, x5, e1, e2, rfl⟩
      cases p2 <;> simp [enumD] at e2
    · rintro d ds ρ ⟨p1, p2, x4, x5, e1, e2, rfl⟩
      cases p2 with
      | nil =>
        rw [List.nil_append, enum_cons] at e2
        cases e2
        rw [List.append_nil] at e1
        subst e1
        exact ⟨_, rfl, .inr ⟨1, _, rfr_hit k h hl hz, rfl⟩⟩
      | cons x p2 =>
        rw [List.cons_append, enum_cons] at e2
        cases e2
        exact ⟨_, rfl, .inl ⟨_, rfr_skip k (hp x (by rw [e1]; simp)), p1 ++ [x], p2, _, _, by rw [e1]; simp, by rw [List.length_append]; rfl, rfl⟩⟩
  rw [hx]
theorem rfr_pure (k : Nat) {p z : Int} {t : List Int} {s : Int} {kept : List (Int × Int)} (hp : ∀ x ∈ p :: t, look kept x = none) (hl : (p :: t).length ≤ 1000) (hz : ∃ u, p :: t = u ++ [z]) :
    CC (k + 1) "rows_for_ring" [inL (p :: t), .int s, dicI kept] [] [] = some (1, rowsD (⟨false, s, p⟩ :: along false (p :: t) ++ [⟨false, z, s⟩])) := by
  obtain ⟨u, hu⟩ := hz
  show runD (CC k) G W d_rows_for_ring [inL (p :: t), .int s, dicI kept] = _
  unfold runD
  have hx : PV.exec (CC k) G W d_rows_for_ring.body (env0 d_rows_for_ring.N [inL (p :: t), .int s, dicI kept]) = some (.rt 1 (rowsD (⟨false, s, p⟩ :: along false (p :: t) ++ [⟨false, z, s⟩]))) := by
    refine (ex_nx (ρ' := envR (p :: t) s kept none none) rfl).trans ?_
    have hf : ∃ n x : Int, PV.exec (CC k) G W (.for_ (.many [4, 5]) (.enm (.var 0)) rowsE) (envR (p :: t) s kept none none) = some (.nx (envR (p :: t) s kept (some (0, .int n)) (some (0, .int x)))) := by
      rw [ex_for (ds := enumD 0 ((p :: t).map D.int)) rfl rfl]
      show ∃ n x : Int, forL (.many [4, 5]) (fun r => PV.exec (CC k) G W rowsE r) (enumD 0 ((p :: t).map D.int)) (envR (p :: t) s kept none none) = _
      refine for_rule (tg := .many [4, 5]) (f := fun r => PV.exec (CC k) G W rowsE r) (P := fun o => ∃ n x : Int, o = some (.nx (envR (p :: t) s kept (some (0, .int n)) (some (0, .int x))))) (fun ds ρ => ∃ p1 p2 x4 x5, p :: t = p1 ++ p2 ∧ ds = enumD p1.length (p2.map D.int) ∧ ρ = envR (p :: t) s kept x4 x5 ∧ (p1 = [] ∨ ∃ n x : Int, x4 = some (0, .int n) ∧ x5 = some (0, .int x))) ?_ ?_ _ _ ⟨[], p :: t, none, none, rfl, rfl, rfl, .inl rfl⟩
      · rintro ρ ⟨p1, p2, x4, x5, e1, e2, rfl, h3⟩
        cases p2 with
        | nil =>
          rcases h3 with h3 | ⟨n, x, rfl, rfl⟩
          · rw [h3] at e1; cases e1
          · exact ⟨n, x, rfl⟩
        | cons x p2 => cases e2
      · rintro d ds ρ ⟨p1, p2, x4, x5, e1, e2, rfl, _⟩
        cases p2 with
        | nil => cases e2
        | cons x p2 =>
          rw [enum_cons] at e2
          cases e2
          exact ⟨_, rfl, .inl ⟨_, rfr_skip k (hp x (by rw [e1]; simp)), p1 ++ [x], p2, _, _, by rw [e1]; simp, by rw [List.length_append]; rfl, rfl, .inr ⟨_, _, rfl, rfl⟩⟩⟩
    obtain ⟨n, x, hf⟩ := hf
    refine (ex_nx hf).trans ?_
    have la : (along false (p :: t)).length ≤ 1000 := by rw [along_len]; omega
    have h3 : ev (CC k) G (.bin .add (.lst (.cons (.tup (.cons (.str "move") (.cons (.var 1) (.cons (.idx (.var 0) (.int 0)) .nil)))) .nil)) (.lc [8, 9] (.many [8, 9]) (.zp (.var 0) (.slc (.var 0) (.itr (.int 1)) .nil)) .yes (.tup (.cons (.str "move") (.cons (.var 8) (.cons (.var 9) .nil)))))) [some (inL (p :: t)), some (.int s), some (dicI kept), none, some (.int n), some (.int x), none, none, none, none] = some (1, rowsD (⟨false, s, p⟩ :: along false (p :: t))) := by
      have e1 : idxD (inL (p :: t)) (.int 0) = some (.int p) := atI_nat (j := 0) rfl
      have e2 := along_ev k (i := 0) (ρ := [some (inL (p :: t)), some (.int s), some (dicI kept), none, some (.int n), some (.int x), none, none, none, none]) (r := p :: t) false rfl (Nat.lt_succ_self 9)
      have e3 : addD (rowsD [⟨false, s, p⟩]) (rowsD (along false (p :: t))) = some (1, rowsD ([⟨false, s, p⟩] ++ along false (p :: t))) := add_rows (by show 1 + _ ≤ 100000; omega)
      have e4 : ev (CC k) G (.lst (.cons (.tup (.cons (.str "move") (.cons (.var 1) (.cons (.idx (.var 0) (.int 0)) .nil)))) .nil)) [some (inL (p :: t)), some (.int s), some (dicI kept), none, some (.int n), some (.int x), none, none, none, none] = some (1, rowsD [⟨false, s, p⟩]) := by
        simp only [ev, evs, List.getElem?_cons_zero, List.getElem?_cons_succ, e1]
        rfl
      rw [ev, e4]
      unfold lcE at e2
      rw [show word false = ("move" : Str) from rfl] at e2
      rw [e2]
      exact e3
    refine (ex_nx (ex_set (i := 3) (evS_ns h3 (nosh_rows _)))).trans ?_
    refine ex_rt (ex_ret (ρ' := _) (evS_ns (k := 1) ?_ (nosh_rows _)))
    have h4 : ev (CC k) G (.bin .add (.var 3) (.lst (.cons (.tup (.cons (.str "move") (.cons (.idx (.var 0) (.neg (.int 1))) (.cons (.var 1) .nil)))) .nil))) [some (inL (p :: t)), some (.int s), some (dicI kept), some (rowsD (⟨false, s, p⟩ :: along false (p :: t))), some (.int n), some (.int x), none, none, none, none] = some (1, rowsD (⟨false, s, p⟩ :: along false (p :: t) ++ [⟨false, z, s⟩])) := by
      have e1 : idxD (inL (p :: t)) (.int (-1)) = some (.int z) := by rw [hu]; exact ati_last
      have e3 : addD (rowsD (⟨false, s, p⟩ :: along false (p :: t))) (rowsD [⟨false, z, s⟩]) = some (1, rowsD (⟨false, s, p⟩ :: along false (p :: t) ++ [⟨false, z, s⟩])) := add_rows (by show _ + 1 ≤ 100000; rw [List.length_cons]; omega)
      simp only [ev, evs, List.getElem?_cons_zero, List.getElem?_cons_succ, e1, binD]
      exact e3
    exact h4
  rw [hx]
end K7

set_option Elab.async false
set_option linter.all false
set_option maxRecDepth 100000
set_option maxHeartbeats 4000000
/-! k07, part G: together, as a loop of two kinds of steps. -/
namespace PV
open PySem PySem.Spec PyProof.Rows L2
def putI (L : List (Int × Int)) (a b : Int) : List (Int × Int) := if (L.any fun p => decide (p.1 = a)) = true then L.map fun p => if p.1 = a then (p.1, b) else p else L ++ [(a, b)]
theorem put_kv (L : List (Int × Int)) (a b : Int) : putD (L.map kv) (Sum.inl a) (.int b) = (putI L a b).map kv := by
  unfold putD putI
  have e : ((L.map kv).any fun q => decide (q.1 = Sum.inl a)) = (L.any fun p => decide (p.1 = a)) := by
    rw [List.any_map]
    refine congrArg (fun f => List.any L f) (funext fun p => ?_)
    show decide ((kv p).1 = Sum.inl a) = decide (p.1 = a)
    exact decide_eq_decide.mpr ⟨fun h => Sum.inl.inj h, fun h => congrArg Sum.inl h⟩
  rw [e]
  split
  · rw [List.map_map, List.map_map]
    refine congrArg (fun f => List.map f L) (funext fun p => ?_)
    show (if (kv p).1 = Sum.inl a then ((kv p).1, D.int b) else kv p) = kv (if p.1 = a then (p.1, b) else p)
    by_cases h : p.1 = a
    · rw [if_pos h, if_pos (show (kv p).1 = Sum.inl a from congrArg Sum.inl h)]; rfl
    · rw [if_neg h, if_neg (show ¬ (kv p).1 = Sum.inl a from fun z => h (Sum.inl.inj z))]
  · rw [List.map_append]; rfl
theorem putI_len (L : List (Int × Int)) (a b : Int) : (putI L a b).length ≤ L.length + 1 := by
  unfold putI
  split
  · rw [List.length_map]; omega
  · rw [List.length_append]; exact Nat.le_refl _
theorem look_putI (L : List (Int × Int)) (a b x : Int) : look (putI L a b) x = if x = a then some b else look L x := by
  unfold putI
  split
  · rename_i h
    have : ∀ M : List (Int × Int), look (M.map fun p => if p.1 = a then (p.1, b) else p) x = if x = a then (look M x).map (fun _ => b) else look M x := by
      intro M
      induction M with
      | nil => unfold look; simp
      | cons p M ih =>
        have hk : (if p.1 = a then (p.1, b) else p).1 = p.1 := by split <;> rfl
        unfold look
        rw [List.map_cons, List.find?_cons, List.find?_cons, hk]
        by_cases hx : p.1 = x
        · rw [show decide (p.1 = x) = true from decide_eq_true hx]
          dsimp only
          by_cases hxa : x = a
          · rw [if_pos hxa, if_pos (hx.trans hxa)]; rfl
          · rw [if_neg hxa, if_neg (fun z => hxa (hx.symm.trans z))]
        · rw [show decide (p.1 = x) = false from decide_eq_false hx]
          exact ih
    rw [this]
    split
    · rename_i e
      subst e
      cases hl : look L x with
      | some v => rfl
      | none =>
        obtain ⟨p, hp, hq⟩ := List.any_eq_true.mp h
        exact absurd (List.mem_map.mpr ⟨p, hp, of_decide_eq_true hq⟩) (look_none.mp hl)
    · rfl
  · rename_i h
    unfold look
    rw [List.find?_append]
    by_cases hx : x = a
    · subst hx
      rw [if_pos rfl]
      have : L.find? (fun p => decide (p.1 = x)) = none := List.find?_eq_none.mpr fun p hp hq => h (List.any_eq_true.mpr ⟨p, hp, hq⟩)
      rw [this]
      simp
    · rw [if_neg hx]
      have : [(a, b)].find? (fun p => decide (p.1 = x)) = none := by simp [Ne.symm hx]
      rw [this]
      cases L.find? (fun p => decide (p.1 = x)) <;> rfl
theorem dc_mv {C : Str → List D → List Str → List D → Option (Nat × D)} {G : Str → Option D} {ρ : Ro} {g s : Nat} {c : Exp} (f : Int × Int → Bool) (hk : ∀ p : Int × Int, ∃ ρ1, asg (.many [g, s]) (pr p) ρ = some ρ1 ∧ ev C G c ρ1 = some (0, .bl (f p)) ∧ ev C G (.var g) ρ1 = some (0, .int p.1) ∧ ev C G (.var s) ρ1 = some (0, .int p.2)) :
    ∀ (ms acc : List (Int × Int)), ((acc ++ ms).map (·.1)).Nodup → dcL (.many [g, s]) (fun r => ev C G c r) (fun r => ev C G (.var g) r) (fun r => ev C G (.var s) r) ρ (ms.map pr) (acc.map kv) = some ((acc ++ ms.filter f).map kv)
  | [], acc, _ => by simp [dcL]
  | p :: ms, acc, nd => by
    obtain ⟨ρ1, h1, h2, h3, h4⟩ := hk p
    rw [List.map_cons]
    unfold dcL
    rw [h1]
    dsimp only
    rw [h2]
    cases hf : f p with
    | true =>
      dsimp only
      rw [h3, h4]
      dsimp only
      show dcL _ _ _ _ ρ (ms.map pr) (putD (acc.map kv) (Sum.inl p.1) (.int p.2)) = _
      have hna : ¬ (acc.any fun q => decide (q.1 = p.1)) = true := fun z => by
        obtain ⟨q, hq, e⟩ := List.any_eq_true.mp z
        rw [List.map_append, List.nodup_append] at nd
        exact nd.2.2 q.1 (List.mem_map_of_mem hq) p.1 (List.mem_map_of_mem (List.mem_cons_self ..)) (of_decide_eq_true e)
      rw [put_kv, putI, if_neg hna, dc_mv f hk ms (acc ++ [(p.1, p.2)]) (by simpa using nd), List.filter_cons_of_pos hf]
      simp
    | false =>
      dsimp only
      rw [dc_mv f hk ms acc (by
        rw [List.map_append, List.nodup_append] at nd ⊢
        rw [List.map_cons, List.nodup_cons] at nd
        exact ⟨nd.1, nd.2.1.2, fun a ha b hb => nd.2.2 a ha b (List.mem_cons_of_mem _ hb)⟩), List.filter_cons_of_neg (by rw [hf]; exact Bool.false_ne_true)]
end PV
namespace K7
open PySem PySem.Spec PyProof.Rows L2 PV
inductive RR : Option Int → List Int → List (Int × Int) → List Rw → Prop
  | swaps {r : List Int} {kept : List (Int × Int)} : RR none r kept (along true r)
  | kept {pre post u : List Int} {q c s z : Int} {kept : List (Int × Int)} : (∀ x ∈ pre, look kept x = none) → look kept q = some c → q :: post ++ pre = u ++ [z] → RR (some s) (pre ++ q :: post) kept (along false (q :: post ++ pre) ++ [⟨false, z, c⟩])
  | pure {p s z : Int} {t u : List Int} {kept : List (Int × Int)} : (∀ x ∈ p :: t, look kept x = none) → p :: t = u ++ [z] → RR (some s) (p :: t) kept (⟨false, s, p⟩ :: along false (p :: t) ++ [⟨false, z, s⟩])
theorem split_at (c : Int → Bool) : ∀ r : List Int, (∀ x ∈ r, c x = false) ∨ ∃ pre q post, r = pre ++ q :: post ∧ (∀ x ∈ pre, c x = false) ∧ c q = true
  | [] => .inl (fun _ h => nomatch h)
  | x :: r => by
    cases h : c x with
    | true => exact .inr ⟨[], x, r, rfl, (fun _ h => nomatch h), h⟩
    | false =>
      rcases split_at c r with z | ⟨pre, q, post, rfl, h1, h2⟩
      · exact .inl fun y hy => (List.mem_cons.mp hy).elim (fun e => e ▸ h) (z y)
      · exact .inr ⟨x :: pre, q, post, rfl, fun y hy => (List.mem_cons.mp hy).elim (fun e => e ▸ h) (h1 y), h2⟩
theorem last_of (x : Int) (t : List Int) : ∃ u z, x :: t = u ++ [z] := ⟨(x :: t).dropLast, (x :: t).getLast (List.cons_ne_nil _ _), (List.dropLast_concat_getLast (List.cons_ne_nil _ _)).symm⟩
theorem rfr_ok (k : Nat) (sp : Option Int) (p : Int) (t : List Int) (kept : List (Int × Int)) (hl : (p :: t).length ≤ 1000) : ∃ rows, RR sp (p :: t) kept rows ∧ CC (k + 1) "rows_for_ring" [inL (p :: t), spD' sp, dicI kept] [] [] = some (1, rowsD rows) := by
  cases sp with
  | none => exact ⟨_, .swaps, rfr_none k _ _⟩
  | some s =>
    rcases split_at (fun x => (look kept x).isSome) (p :: t) with h | ⟨pre, q, post, e, h1, h2⟩
    · have h' : ∀ x ∈ p :: t, look kept x = none := fun x hx => by
        have := h x hx
        cases z : look kept x with
        | none => rfl
        | some v => rw [z] at this; cases this
      obtain ⟨u, z, hz⟩ := last_of p t
      exact ⟨_, .pure h' hz, rfr_pure k h' hl ⟨u, hz⟩⟩
    · have h1' : ∀ x ∈ pre, look kept x = none := fun x hx => by
        have := h1 x hx
        cases z : look kept x with
        | none => rfl
        | some v => rw [z] at this; cases this
      obtain ⟨c, hc⟩ := Option.isSome_iff_exists.mp h2
      obtain ⟨u, z, hz⟩ := last_of q (post ++ pre)
      rw [e] at hl ⊢
      exact ⟨_, .kept h1' hc hz, rfr_kept k h1' hc hl ⟨u, hz⟩⟩
theorem rr_len {sp : Option Int} {r : List Int} {kept : List (Int × Int)} {rows : List Rw} (h : RR sp r kept rows) : rows.length ≤ r.length + 1 := by
  cases h with
  | swaps => rw [along_len]; omega
  | kept _ _ _ => rw [List.length_append, along_len]; simp; omega
  | pure _ _ => simp [along_len]
end K7

set_option Elab.async false
set_option linter.all false
set_option maxRecDepth 100000
set_option maxHeartbeats 4000000
/-! k07, part I: together. -/
namespace K7
open PySem PySem.Spec PyProof.Rows L2 PV
def freeL (L : List (Int × Int)) : List Int := (L.map (·.1)).filter fun x => decide (x ∉ L.map (·.2))
structure Alg (sp : Option Int) (I : List (Int × Int) → List Rw → List (Int × Int) → Prop) : Prop where
  free : ∀ L rs kept f0 fr s, I L rs kept → freeL L = f0 :: fr → look L f0 = some s → I (L.filter fun p => decide (p.1 ≠ f0)) (rs ++ [⟨false, f0, s⟩]) (putI kept s f0)
  chain : ∀ p q L rs kept, I ((p, q) :: L) rs kept → freeL ((p, q) :: L) = [] → ∃ t, Chain ((p, q) :: L) p (p :: t) ∧ (p :: t).Nodup ∧ t.length ≤ 100 ∧ ∀ x ∈ p :: t, (look ((p, q) :: L) x).isSome = true
  ring : ∀ p q L rs kept t rows, I ((p, q) :: L) rs kept → freeL ((p, q) :: L) = [] → Chain ((p, q) :: L) p (p :: t) → (p :: t).Nodup → RR sp (p :: t) kept rows → I (((p, q) :: L).filter fun e => decide (e.1 ∉ p :: t)) (rs ++ rows) kept
  small : ∀ L rs kept, I L rs kept → L.length ≤ 100 ∧ rs.length ≤ 1000 ∧ kept.length ≤ 1000
def loopB : Sta := (.cons (.set 6 (.lc [11] (.one 11) (.itr (.var 3)) (.cmp .notin (.var 11) (.blt .listvals (.var 3))) (.var 11)))
    (.cons (.ite (.cmp .ne (.var 6) (.lst .nil)) (.cons (.popx 8 3 (.idx (.var 6) (.int 0)))
    (.cons (.app 4 (.tup (.cons (.str "move") (.cons (.idx (.var 6) (.int 0)) (.cons (.var 8) .nil)))))
    (.cons (.seti 5 (.var 8) (.idx (.var 6) (.int 0)))
    .nil))) (.cons (.set 9 (.call "ring_from" (.cons (.var 3) (.cons (.idx (.blt .list (.var 3)) (.int 0)) .nil)) [] .nil))
    (.cons (.for_ (.one 10) (.itr (.var 9)) (.cons (.popd 3 (.var 10))
    .nil))
    (.cons (.ext 4 (.call "rows_for_ring" (.cons (.var 9) (.cons (.var 1) (.cons (.var 5) .nil))) [] .nil))
    .nil))))
    .nil))
abbrev envT (m s : D) (gs : List Int) (L : List (Int × Int)) (rs : List Rw) (kept : List (Int × Int)) (x6 x8 x9 x10 : Option (Nat × D)) : PV.Env := [some (0, m), some (0, s), some (1, inL gs), some (1, dicI L), some (1, rowsD rs), some (1, dicI kept), x6, none, x8, x9, x10, none]
/-- what may stand in a slot that nobody reads before it is written -/
def Sl (x : Option (Nat × D)) : Prop := x = none ∨ (∃ k i, x = some (k, .int i)) ∨ ∃ k xs, x = some (k, inL xs)
theorem ex_slot {m : List Nat} {i : Nat} {x : Option (Nat × D)} : ∃ y : Option D, ∀ r, expose m i (x :: r) = y :: expose m (i + 1) r := by
  cases x with
  | none => exact ⟨none, fun _ => rfl⟩
  | some v => exact ⟨_, fun _ => rfl⟩
theorem free_ev (k : Nat) {L : List (Int × Int)} {ρ : Ro} (h3 : ρ[3]? = some (some (dicI L))) (hl : ρ.length = 12) : ev (CC k) G (.lc [11] (.one 11) (.itr (.var 3)) (.cmp .notin (.var 11) (.blt .listvals (.var 3))) (.var 11)) ρ = some (1, inL (freeL L)) := by
  have h1 : evI (CC k) G (.itr (.var 3)) ρ = some ((L.map (·.1)).map D.int) := by
    simp only [evI, ev, h3]
    show some ((L.map kv).map fun kv => dOfKey kv.1) = _
    rw [List.map_map, List.map_map]; rfl
  refine ev_lc h1 ?_
  refine lc_rule (tg := .one 11) D.int (fun x => decide (x ∉ L.map (·.2))) D.int fun x _ => ⟨(wipeR ρ [11]).set 11 (some (.int x)), rfl, ⟨0, ?_⟩, fun _ => ⟨0, ?_⟩⟩
  · have g3 : ((wipeR ρ [11]).set 11 (some (D.int x)))[3]? = some (some (dicI L)) := by
      show (((ρ).set 11 none).set 11 (some (D.int x)))[3]? = _
      rw [List.getElem?_set_ne (by decide), List.getElem?_set_ne (by decide)]; exact h3
    have g11 : ((wipeR ρ [11]).set 11 (some (D.int x)))[11]? = some (some (.int x)) := by
      show (((ρ).set 11 none).set 11 (some (D.int x)))[11]? = _
      rw [List.getElem?_set_self (by rw [List.length_set]; omega)]
    have hv : bltD .listvals (dicI L) = some (1, inL (L.map (·.2))) := by
      show some (1, D.lst ((L.map kv).map (·.2))) = _
      rw [List.map_map]
      unfold inL
      rw [List.map_map]; rfl
    simp only [ev, g3, g11, hv, cmpD, ind_in]
    simp
  · have g11 : ((wipeR ρ [11]).set 11 (some (D.int x)))[11]? = some (some (.int x)) := by
      show (((ρ).set 11 none).set 11 (some (D.int x)))[11]? = _
      rw [List.getElem?_set_self (by rw [List.length_set]; omega)]
    simp only [ev, g11]
end K7

set_option Elab.async false
set_option linter.all false
set_option maxRecDepth 100000
set_option maxHeartbeats 4000000
/-! k07, part J: together, its loop. -/
namespace K7
open PySem PySem.Spec PyProof.Rows L2 PV
theorem exp_get {m : List Nat} : ∀ {ρ : PV.Env} {i j k : Nat} {d : D}, ρ[j]? = some (some (k, d)) → (k = 0 ∨ (i + j) ∈ m) → (expose m i ρ)[j]? = some (some d)
  | [], i, j, k, d, h, _ => by simp at h
  | none :: ρ, i, 0, k, d, h, _ => by simp at h
  | some v :: ρ, i, 0, k, d, h, hk => by
    have e : some (k, d) = some v := by simpa using h.symm
    cases e
    show some (if k = 0 ∨ i ∈ m then some d else none) = _
    rw [if_pos (show k = 0 ∨ i ∈ m from hk)]
  | none :: ρ, i, j + 1, k, d, h, hk => by
    show (expose m (i + 1) ρ)[j]? = _
    exact exp_get (by simpa using h) (by rw [Nat.add_right_comm, Nat.add_assoc]; exact hk)
  | some v :: ρ, i, j + 1, k, d, h, hk => by
    show (expose m (i + 1) ρ)[j]? = _
    exact exp_get (by simpa using h) (by rw [Nat.add_right_comm, Nat.add_assoc]; exact hk)
theorem exp_len {m : List Nat} : ∀ {ρ : PV.Env} {i : Nat}, (expose m i ρ).length = ρ.length
  | [], _ => rfl
  | none :: ρ, i => by
    show (expose m (i + 1) ρ).length + 1 = _
    rw [exp_len]; rfl
  | some v :: ρ, i => by
    show (expose m (i + 1) ρ).length + 1 = _
    rw [exp_len]; rfl
section
variable {m s : D} {gs : List Int} {L kept : List (Int × Int)} {rs : List Rw} {x6 x8 x9 x10 : Option (Nat × D)} (k : Nat)
theorem step_set6 : PV.exec (CC k) G W (.set 6 (.lc [11] (.one 11) (.itr (.var 3)) (.cmp .notin (.var 11) (.blt .listvals (.var 3))) (.var 11))) (envT m s gs L rs kept x6 x8 x9 x10) = some (.nx (envT m s gs L rs kept (some (1, inL (freeL L))) x8 x9 x10)) :=
  ex_set (evS_ns (free_ev k (exp_get (k := 1) rfl (.inr (by decide))) (by rw [exp_len]; rfl)) (nosh_in _))
theorem if6 (fr : List Int) : evB (CC k) G (.cmp .ne (.var 6) (.lst .nil)) (envT m s gs L rs kept (some (1, inL fr)) x8 x9 x10) = some (!fr.isEmpty) := by
  refine evB_of (k := 0) ?_
  have g6 := exp_get (m := fv (.cmp .ne (.var 6) (.lst .nil))) (i := 0) (j := 6) (ρ := envT m s gs L rs kept (some (1, inL fr)) x8 x9 x10) rfl (.inr (by decide))
  have e0 : ([] : List D).length ≤ cap := Nat.zero_le _
  simp only [ev, evs, g6, cmpD, if_pos e0, eqd_in_nil]
  rfl
theorem step_free {f0 v : Int} {fr : List Int} (hf : freeL L = f0 :: fr) (hv : look L f0 = some v) (hrs : rs.length < cap) (hk : kept.length < cap) :
    PV.exec (CC k) G W loopB (envT m s gs L rs kept x6 x8 x9 x10) = some (.nx (envT m s gs (L.filter fun p => decide (p.1 ≠ f0)) (rs ++ [⟨false, f0, v⟩]) (putI kept v f0) (some (1, inL (f0 :: fr))) (some (0, .int v)) x9 x10)) := by
  refine (ex_nx (step_set6 k)).trans ?_
  rw [hf]
  refine (ex_nx (ρ' := envT m s gs (L.filter fun p => decide (p.1 ≠ f0)) (rs ++ [⟨false, f0, v⟩]) (putI kept v f0) (some (1, inL (f0 :: fr))) (some (0, .int v)) x9 x10) ?_).trans rfl
  refine (ex_true (if6 k (f0 :: fr))).trans ?_
  have i0 : idxD (inL (f0 :: fr)) (.int 0) = some (.int f0) := atI_nat (j := 0) rfl
  -- source = left.pop(free[0])
  have p1 : PV.exec (CC k) G W (.popx 8 3 (.idx (.var 6) (.int 0))) (envT m s gs L rs kept (some (1, inL (f0 :: fr))) x8 x9 x10) = some (.nx (envT m s gs (L.filter fun p => decide (p.1 ≠ f0)) rs kept (some (1, inL (f0 :: fr))) (some (0, .int v)) x9 x10)) := by
    refine ex_popx (k := 0) (y := .int f0) (v := .int v) (d' := dicI (L.filter fun p => decide (p.1 ≠ f0))) rfl (evS_ns ?_ rfl) rfl ?_
    · have g6 := exp_get (m := fv (.idx (.var 6) (.int 0))) (i := 0) (j := 6) (ρ := envT m s gs L rs kept (some (1, inL (f0 :: fr))) x8 x9 x10) rfl (.inr (by decide))
      simp only [ev, g6, i0]
      rfl
    · show (match valD (L.map kv) (Sum.inl f0) with
        | some v => some (v, D.dic (dropD (L.map kv) (Sum.inl f0)))
        | none => none) = _
      rw [val_kv, hv, drop_kv]; rfl
  refine (ex_nx p1).trans ?_
  -- rows.append
  have p2 : PV.exec (CC k) G W (.app 4 (.tup (.cons (.str "move") (.cons (.idx (.var 6) (.int 0)) (.cons (.var 8) .nil))))) (envT m s gs (L.filter fun p => decide (p.1 ≠ f0)) rs kept (some (1, inL (f0 :: fr))) (some (0, .int v)) x9 x10) = some (.nx (envT m s gs (L.filter fun p => decide (p.1 ≠ f0)) (rs ++ [⟨false, f0, v⟩]) kept (some (1, inL (f0 :: fr))) (some (0, .int v)) x9 x10)) := by
    have e : rowsD (rs ++ [⟨false, f0, v⟩]) = .lst (rs.map rwD ++ [rwD ⟨false, f0, v⟩]) := by simp [rowsD]
    unfold envT
    rw [e]
    refine ex_app (k := 0) (d := rwD ⟨false, f0, v⟩) rfl (evS_ns ?_ rfl) rfl (by rw [List.length_map]; exact hrs)
    have g6 := exp_get (m := fv (.tup (.cons (.str "move") (.cons (.idx (.var 6) (.int 0)) (.cons (.var 8) .nil))))) (i := 0) (j := 6) (ρ := envT m s gs (L.filter fun p => decide (p.1 ≠ f0)) rs kept (some (1, inL (f0 :: fr))) (some (0, .int v)) x9 x10) rfl (.inr (by decide))
    have g8 := exp_get (m := fv (.tup (.cons (.str "move") (.cons (.idx (.var 6) (.int 0)) (.cons (.var 8) .nil))))) (i := 0) (j := 8) (ρ := envT m s gs (L.filter fun p => decide (p.1 ≠ f0)) rs kept (some (1, inL (f0 :: fr))) (some (0, .int v)) x9 x10) rfl (.inl rfl)
    simp only [ev, evs, g6, g8, i0]
    rfl
  refine (ex_nx p2).trans ?_
  refine (ex_nx (ρ' := envT m s gs (L.filter fun p => decide (p.1 ≠ f0)) (rs ++ [⟨false, f0, v⟩]) (putI kept v f0) (some (1, inL (f0 :: fr))) (some (0, .int v)) x9 x10) ?_).trans rfl
  refine ex_seti (k := 0) (d := .int f0) (k2 := 0) (y := .int v) (d0 := dicI kept) (d' := dicI (putI kept v f0)) (evS_ns ?_ rfl) (evS_ns ?_ rfl) rfl ?_
  · have g6 := exp_get (m := fv (.idx (.var 6) (.int 0))) (i := 0) (j := 6) (ρ := envT m s gs (L.filter fun p => decide (p.1 ≠ f0)) (rs ++ [⟨false, f0, v⟩]) kept (some (1, inL (f0 :: fr))) (some (0, .int v)) x9 x10) rfl (.inr (by decide))
    simp only [ev, g6, i0]
    rfl
  · have g8 := exp_get (m := fv (.var 8)) (i := 0) (j := 8) (ρ := envT m s gs (L.filter fun p => decide (p.1 ≠ f0)) (rs ++ [⟨false, f0, v⟩]) kept (some (1, inL (f0 :: fr))) (some (0, .int v)) x9 x10) rfl (.inl rfl)
    simp only [ev, g8]
  · show (if (kept.map kv).length < cap then some (D.dic (putD (kept.map kv) (Sum.inl v) (.int f0))) else none) = _
    rw [if_pos (by rw [List.length_map]; exact hk), put_kv]; rfl
theorem pops (s' : Option (Nat × D)) : ∀ (t : List Int) (L : List (Int × Int)) (x10 : Option (Nat × D)), (∀ x ∈ t, (look L x).isSome = true) → t.Nodup →
    ∃ y10, forL (.one 10) (fun r => PV.exec (CC k) G W (.cons (.popd 3 (.var 10)) .nil) r) (t.map D.int) (envT m s gs L rs kept x6 x8 x9 x10) = some (.nx (envT m s gs (L.filter fun e => decide (e.1 ∉ t)) rs kept x6 x8 x9 y10))
  | [], L, x10, _, _ => ⟨x10, by
    rw [List.filter_eq_self.mpr fun _ _ => by simp]; rfl⟩
  | x :: t, L, x10, h, nd => by
    rw [List.nodup_cons] at nd
    obtain ⟨v, hv⟩ := Option.isSome_iff_exists.mp (h x (List.mem_cons_self ..))
    have p1 : PV.exec (CC k) G W (.cons (.popd 3 (.var 10)) .nil) (envT m s gs L rs kept x6 x8 x9 (some (0, .int x))) = some (.nx (envT m s gs (L.filter fun p => decide (p.1 ≠ x)) rs kept x6 x8 x9 (some (0, .int x)))) := by
      refine (ex_nx (ρ' := envT m s gs (L.filter fun p => decide (p.1 ≠ x)) rs kept x6 x8 x9 (some (0, .int x))) ?_).trans rfl
      refine ex_popd (k := 0) (y := .int x) (v := .int v) (d' := dicI (L.filter fun p => decide (p.1 ≠ x))) rfl (evS_ns ?_ rfl) rfl ?_
      · have g10 := exp_get (m := fv (.var 10)) (i := 0) (j := 10) (ρ := envT m s gs L rs kept x6 x8 x9 (some (0, .int x))) rfl (.inl rfl)
        simp only [ev, g10]
      · show (match valD (L.map kv) (Sum.inl x) with
          | some v => some (v, D.dic (dropD (L.map kv) (Sum.inl x)))
          | none => none) = _
        rw [val_kv, hv, drop_kv]; rfl
    obtain ⟨y10, ih⟩ := pops s' t (L.filter fun p => decide (p.1 ≠ x)) (some (0, .int x)) (fun y hy => by
      have := h y (List.mem_cons_of_mem _ hy)
      cases hz : look (L.filter fun p => decide (p.1 ≠ x)) y with
      | some _ => rfl
      | none =>
        obtain ⟨w, hw⟩ := Option.isSome_iff_exists.mp this
        refine absurd (List.mem_map.mpr ⟨(y, w), List.mem_filter.mpr ⟨look_mem hw, decide_eq_true ?_⟩, rfl⟩) (look_none.mp hz)
        exact fun e => nd.1 (e ▸ hy)) nd.2
    refine ⟨y10, ?_⟩
    rw [List.map_cons]
    unfold forL
    show (match some (envT m s gs L rs kept x6 x8 x9 (some (0, .int x))) with
      | none => none
      | some ρ1 => match PV.exec (CC k) G W (.cons (.popd 3 (.var 10)) .nil) ρ1 with
        | some (Out.nx ρ2) => forL (.one 10) (fun r => PV.exec (CC k) G W (.cons (.popd 3 (.var 10)) .nil) r) (t.map D.int) ρ2
        | some (Out.ct ρ2) => forL (.one 10) (fun r => PV.exec (CC k) G W (.cons (.popd 3 (.var 10)) .nil) r) (t.map D.int) ρ2
        | some (Out.br ρ2) => some (Out.nx ρ2)
        | some (Out.rt k d) => some (Out.rt k d)
        | none => none) = _
    dsimp only
    rw [p1]
    dsimp only
    rw [ih]
    have hLL : ((L.filter fun p => decide (p.1 ≠ x)).filter fun e => decide (e.1 ∉ t)) = L.filter fun e => decide (e.1 ∉ x :: t) := by
      rw [List.filter_filter]
      refine congrArg (fun f => List.filter f L) (funext fun e => ?_)
      rw [← Bool.decide_and]
      exact decide_eq_decide.mpr ⟨fun ⟨a, b⟩ z => (List.mem_cons.mp z).elim b a, fun a => ⟨fun z => a (List.mem_cons_of_mem _ z), fun z => a (by rw [z]; exact List.mem_cons_self ..)⟩⟩
    rw [hLL]
end
end K7

set_option Elab.async false
set_option linter.all false
set_option maxRecDepth 100000
set_option maxHeartbeats 4000000
/-! k07, part K: together, whole. -/
namespace K7
open PySem PySem.Spec PyProof.Rows L2 PV
section
variable {m : D} {sp : Option Int} {gs : List Int} {L kept : List (Int × Int)} {rs : List Rw} {x6 x8 x9 x10 : Option (Nat × D)} (k : Nat)
theorem step_ring {p q : Int} {t : List Int} {rows : List Rw} (hf : freeL ((p, q) :: L) = []) (hc : Chain ((p, q) :: L) p (p :: t)) (nd : (p :: t).Nodup) (hl : t.length ≤ 100) (hs : ∀ x ∈ p :: t, (look ((p, q) :: L) x).isSome = true)
    (hr : CC (k + 1) "rows_for_ring" [inL (p :: t), spD' sp, dicI kept] [] [] = some (1, rowsD rows)) (hrs : rs.length + rows.length ≤ cap) :
    ∃ y6 y8 y9 y10, PV.exec (CC (k + 1)) G W loopB (envT m (spD' sp) gs ((p, q) :: L) rs kept x6 x8 x9 x10) = some (.nx (envT m (spD' sp) gs (((p, q) :: L).filter fun e => decide (e.1 ∉ p :: t)) (rs ++ rows) kept y6 y8 y9 y10)) := by
  obtain ⟨y10, hpop⟩ := pops (m := m) (s := spD' sp) (gs := gs) (rs := rs) (kept := kept) (x6 := some (1, inL [])) (x8 := x8) (x9 := some (0, inL (p :: t))) (k + 1) none (p :: t) ((p, q) :: L) x10 hs nd
  refine ⟨some (1, inL []), x8, some (0, inL (p :: t)), y10, ?_⟩
  refine (ex_nx (step_set6 (k + 1))).trans ?_
  rw [hf]
  refine (ex_nx (ρ' := envT m (spD' sp) gs (((p, q) :: L).filter fun e => decide (e.1 ∉ p :: t)) (rs ++ rows) kept (some (1, inL [])) x8 (some (0, inL (p :: t))) y10) ?_).trans rfl
  refine (ex_false (if6 (k + 1) [])).trans ?_
  -- ring
  have p1 : PV.exec (CC (k + 1)) G W (.set 9 (.call "ring_from" (.cons (.var 3) (.cons (.idx (.blt .list (.var 3)) (.int 0)) .nil)) [] .nil)) (envT m (spD' sp) gs ((p, q) :: L) rs kept (some (1, inL [])) x8 x9 x10) = some (.nx (envT m (spD' sp) gs ((p, q) :: L) rs kept (some (1, inL [])) x8 (some (1, inL (p :: t))) x10)) := by
    refine ex_set (evS_ns ?_ (nosh_in _))
    have g3 := exp_get (m := fv (.call "ring_from" (.cons (.var 3) (.cons (.idx (.blt .list (.var 3)) (.int 0)) .nil)) [] .nil)) (i := 0) (j := 3) (ρ := envT m (spD' sp) gs ((p, q) :: L) rs kept (some (1, inL [])) x8 x9 x10) rfl (.inr (by decide))
    have hb : bltD .list (dicI ((p, q) :: L)) = some (1, .lst ((((p, q) :: L).map kv).map fun kv => dOfKey kv.1)) := rfl
    have hi : idxD (.lst ((((p, q) :: L).map kv).map fun kv => dOfKey kv.1)) (.int 0) = some (.int p) := atI_nat (j := 0) rfl
    simp only [ev, evs, g3, hb, hi, Option.map_some]
    exact ring_from_ok k hc (by omega)
  refine (ex_nx p1).trans ?_
  -- the pops
  have p2 : PV.exec (CC (k + 1)) G W (.for_ (.one 10) (.itr (.var 9)) (.cons (.popd 3 (.var 10)) .nil)) (envT m (spD' sp) gs ((p, q) :: L) rs kept (some (1, inL [])) x8 (some (1, inL (p :: t))) x10) = some (.nx (envT m (spD' sp) gs (((p, q) :: L).filter fun e => decide (e.1 ∉ p :: t)) rs kept (some (1, inL [])) x8 (some (0, inL (p :: t))) y10)) := by
    have g9 := exp_get (m := fv (.itr (.var 9))) (i := 0) (j := 9) (ρ := envT m (spD' sp) gs ((p, q) :: L) rs kept (some (1, inL [])) x8 (some (1, inL (p :: t))) x10) rfl (.inr (by decide))
    have hfz : freeze (fv (.itr (.var 9))) 0 (envT m (spD' sp) gs ((p, q) :: L) rs kept (some (1, inL [])) x8 (some (1, inL (p :: t))) x10) = envT m (spD' sp) gs ((p, q) :: L) rs kept (some (1, inL [])) x8 (some (0, inL (p :: t))) x10 := by
      cases x8 <;> cases x10 <;> rfl
    rw [ex_for (ds := (p :: t).map D.int) ?_ ?_, hfz]
    · exact hpop
    · unfold isDicE
      simp only [ev, g9]
      rfl
    · simp only [evI, ev, g9]
      rfl
  refine (ex_nx p2).trans ?_
  refine (ex_nx (ρ' := envT m (spD' sp) gs (((p, q) :: L).filter fun e => decide (e.1 ∉ p :: t)) (rs ++ rows) kept (some (1, inL [])) x8 (some (0, inL (p :: t))) y10) ?_).trans rfl
  have e : rowsD (rs ++ rows) = .lst (rs.map rwD ++ rows.map rwD) := by simp [rowsD]
  unfold envT
  rw [e]
  refine ex_ext (k := 1) (ys := rows.map rwD) rfl (evS_ns ?_ (nosh_rows _)) rfl (by rw [List.length_map, List.length_map]; exact hrs)
  have g9 := exp_get (m := fv (.call "rows_for_ring" (.cons (.var 9) (.cons (.var 1) (.cons (.var 5) .nil))) [] .nil)) (i := 0) (j := 9) (ρ := envT m (spD' sp) gs (((p, q) :: L).filter fun e => decide (e.1 ∉ p :: t)) rs kept (some (1, inL [])) x8 (some (0, inL (p :: t))) y10) rfl (.inl rfl)
  have g1 := exp_get (m := fv (.call "rows_for_ring" (.cons (.var 9) (.cons (.var 1) (.cons (.var 5) .nil))) [] .nil)) (i := 0) (j := 1) (ρ := envT m (spD' sp) gs (((p, q) :: L).filter fun e => decide (e.1 ∉ p :: t)) rs kept (some (1, inL [])) x8 (some (0, inL (p :: t))) y10) rfl (.inl rfl)
  have g5 := exp_get (m := fv (.call "rows_for_ring" (.cons (.var 9) (.cons (.var 1) (.cons (.var 5) .nil))) [] .nil)) (i := 0) (j := 5) (ρ := envT m (spD' sp) gs (((p, q) :: L).filter fun e => decide (e.1 ∉ p :: t)) rs kept (some (1, inL [])) x8 (some (0, inL (p :: t))) y10) rfl (.inr (by decide))
  simp only [ev, evs, g9, g1, g5]
  exact hr
theorem loop_ok {I : List (Int × Int) → List Rw → List (Int × Int) → Prop} (al : Alg sp I) {rs0 : List Rw} {kept0 : List (Int × Int)} (h0 : I L rs0 kept0) :
    ∃ rs kept y6 y8 y9 y10, I [] rs kept ∧ PV.exec (CC (k + 1)) G W (.whl (.cmp .ne (.var 3) .dnew) loopB) (envT m (spD' sp) gs L rs0 kept0 none none none none) = some (.nx (envT m (spD' sp) gs [] rs kept y6 y8 y9 y10)) := by
  refine whl_rule (c := fun r => evB (CC (k + 1)) G (.cmp .ne (.var 3) .dnew) r) (f := fun r => PV.exec (CC (k + 1)) G W loopB r) (P := fun o => ∃ rs kept y6 y8 y9 y10, I [] rs kept ∧ o = some (.nx (envT m (spD' sp) gs [] rs kept y6 y8 y9 y10))) (fun n ρ => ∃ L rs kept y6 y8 y9 y10, I L rs kept ∧ n = L.length ∧ ρ = envT m (spD' sp) gs L rs kept y6 y8 y9 y10) ?_ W L.length _ (by show L.length < 1000000; have := (al.small _ _ _ h0).1; omega) ⟨L, rs0, kept0, none, none, none, none, h0, rfl, rfl⟩
  rintro n ρ ⟨L, rs, kept, y6, y8, y9, y10, hI, rfl, rfl⟩
  obtain ⟨s1, s2, s3⟩ := al.small _ _ _ hI
  have hcond : evB (CC (k + 1)) G (.cmp .ne (.var 3) .dnew) (envT m (spD' sp) gs L rs kept y6 y8 y9 y10) = some (!L.isEmpty) := by
    refine evB_of (k := 0) ?_
    have g3 := exp_get (m := fv (.cmp .ne (.var 3) .dnew)) (i := 0) (j := 3) (ρ := envT m (spD' sp) gs L rs kept y6 y8 y9 y10) rfl (.inr (by decide))
    have he : eqD (dicI L) (.dic []) = some L.isEmpty := by
      show some (L.map kv).isEmpty = _
      cases L <;> rfl
    simp only [ev, g3, cmpD, he]
    rfl
  cases L with
  | nil => exact .inl ⟨hcond, rs, kept, y6, y8, y9, y10, hI, rfl⟩
  | cons e L =>
    obtain ⟨p, q⟩ := e
    refine .inr ⟨hcond, .inl ?_⟩
    cases hf : freeL ((p, q) :: L) with
    | cons f0 fr =>
      have hm : f0 ∈ freeL ((p, q) :: L) := by rw [hf]; exact List.mem_cons_self ..
      have hm2 := (List.mem_filter.mp hm).1
      obtain ⟨v, hv⟩ : ∃ v, look ((p, q) :: L) f0 = some v := by
        cases hz : look ((p, q) :: L) f0 with
        | some v => exact ⟨v, rfl⟩
        | none => exact absurd hm2 (look_none.mp hz)
      refine ⟨_, (((p, q) :: L).filter fun p => decide (p.1 ≠ f0)).length, ?_, ⟨_, _, _, _, _, _, _, al.free _ _ _ _ _ _ hI hf hv, rfl, rfl⟩, step_free (k + 1) hf hv (by show _ < 100000; omega) (by show _ < 100000; omega)⟩
      have := List.length_filter_lt_length_iff_exists (p := fun p : Int × Int => decide (p.1 ≠ f0)) (l := (p, q) :: L)
      exact this.mpr ⟨(f0, v), look_mem hv, by simp⟩
    | nil =>
      obtain ⟨t, hc, nd, hl, hs⟩ := al.chain p q L rs kept hI hf
      obtain ⟨rows, hR, hrows⟩ := rfr_ok k sp p t kept (by rw [List.length_cons]; omega)
      have := rr_len hR
      rw [List.length_cons] at this
      obtain ⟨z6, z8, z9, z10, hx⟩ := step_ring (m := m) (sp := sp) (gs := gs) (rs := rs) (x6 := y6) (x8 := y8) (x9 := y9) (x10 := y10) k hf hc nd hl hs hrows (by show _ ≤ 100000; omega)
      refine ⟨_, (((p, q) :: L).filter fun e => decide (e.1 ∉ p :: t)).length, ?_, ⟨_, _, _, _, _, _, _, al.ring p q L rs kept t rows hI hf hc nd hR, rfl, rfl⟩, hx⟩
      have := List.length_filter_lt_length_iff_exists (p := fun e : Int × Int => decide (e.1 ∉ p :: t)) (l := (p, q) :: L)
      exact this.mpr ⟨(p, q), List.mem_cons_self .., by simp⟩
end
/-- the moves that together takes -/
structure Good (sp : Option Int) (ms : List (Int × Int)) : Prop where
  few : ms.length ≤ 10
  rng : ∀ p ∈ ms, (0 ≤ p.1 ∧ p.1 ≤ 99) ∧ 0 ≤ p.2 ∧ p.2 ≤ 99
  nd : (ms.map (·.1)).Nodup
  sp : ∀ s, sp = some s → (0 ≤ s ∧ s ≤ 99) ∧ s ∉ ms.map (·.1) ∧ s ∉ ms.map (·.2)
def left0 (ms : List (Int × Int)) : List (Int × Int) := ms.filter fun p => decide (p.1 ≠ p.2)
end K7

set_option Elab.async false
set_option linter.all false
set_option maxRecDepth 100000
set_option maxHeartbeats 4000000
/-! k07, part L: together, from its start. -/
namespace K7
open PySem PySem.Spec PyProof.Rows L2 PV
section
variable {sp : Option Int} {ms : List (Int × Int)} (k : Nat)
/-- [e for one in x] where x is a list of pairs in slot 0 and one slot 7 -/
theorem lc7 {C : Str → List D → List Str → List D → Option (Nat × D)} {ρ : Ro} {e : Exp} (f : Int × Int → D) (h0 : ρ[0]? = some (some (mvD ms))) (h : ∀ p ∈ ms, ∃ j, ev C G e (((ρ.set 7 none).set 7 (some (pr p)))) = some (j, f p)) : ev C G (.lc [7] (.one 7) (.itr (.var 0)) .yes e) ρ = some (1, .lst (ms.map f)) := by
  refine ev_lc (ds := ms.map pr) ?_ ?_
  · simp only [evI, ev, h0]; rfl
  · exact lc_all (tg := .one 7) pr f fun p hp => ⟨_, rfl, h p hp⟩
theorem lc7i {C : Str → List D → List Str → List D → Option (Nat × D)} {ρ : Ro} (h0 : ρ[0]? = some (some (mvD ms))) (hl : ρ.length = 12) : ev C G (.lc [7] (.one 7) (.itr (.var 0)) .yes (.idx (.var 7) (.int 0))) ρ = some (1, inL (ms.map (·.1))) ∧ ev C G (.lc [7] (.one 7) (.itr (.var 0)) .yes (.idx (.var 7) (.int 1))) ρ = some (1, inL (ms.map (·.2))) := by
  have g7 : ∀ p : Int × Int, ((ρ.set 7 none).set 7 (some (pr p)))[7]? = some (some (pr p)) := fun p => by
    rw [List.getElem?_set_self (by rw [List.length_set]; omega)]
  constructor
  · rw [show inL (ms.map (·.1)) = .lst (ms.map fun p => .int p.1) by simp [inL]]
    refine lc7 _ h0 fun p _ => ⟨0, ?_⟩
    have : idxD (pr p) (.int 0) = some (.int p.1) := rfl
    simp only [ev, g7, this]; rfl
  · rw [show inL (ms.map (·.2)) = .lst (ms.map fun p => .int p.2) by simp [inL]]
    refine lc7 _ h0 fun p _ => ⟨0, ?_⟩
    have : idxD (pr p) (.int 1) = some (.int p.2) := rfl
    simp only [ev, g7, this]; rfl
abbrev envS (ms : List (Int × Int)) (sp : Option Int) (x2 : Option (Nat × D)) : PV.Env := [some (0, mvD ms), some (0, spD' sp), x2, none, none, none, none, none, none, none, none, none]
theorem tg1 (g : Good sp ms) : evB (CC (k + 2)) G (.or_ (.nt (.blt .islist (.var 0))) (.or_ (.cmp .gt (.blt .len (.var 0)) (.glob "MOST")) (.nt (.blt .all (.lc [7] (.one 7) (.itr (.var 0)) .yes (.call "is_move" (.cons (.var 7) .nil) [] .nil)))))) (envS ms sp none) = some false := by
  refine evB_of (k := 0) ?_
  have h := lc7 (ms := ms) (C := CC (k + 2)) (ρ := [some (mvD ms), some (spD' sp), none, none, none, none, none, none, none, none, none, none]) (e := .call "is_move" (.cons (.var 7) .nil) [] .nil) (fun _ => .bl true) rfl (fun p hp => by
    obtain ⟨⟨h1, h2⟩, h3, h4⟩ := g.rng p hp
    refine ⟨0, ?_⟩
    have := is_move_ok k h1 h2 h3 h4
    simp only [ev, evs]
    exact this)
  have hb : bltD .all (.lst (ms.map fun _ => .bl true)) = some (0, .bl true) := by
    show (bools (ms.map fun _ => .bl true)).map (fun bs => (0, D.bl (bs.all id))) = _
    rw [bools_map (fun _ => true)]
    show some (0, D.bl ((ms.map fun _ => true).all id)) = _
    rw [List.all_map, show ms.all (id ∘ fun _ => true) = true from List.all_eq_true.mpr fun _ _ => rfl]
  have e0 : ev (CC (k + 2)) G (.nt (.blt .islist (.var 0))) [some (mvD ms), some (spD' sp), none, none, none, none, none, none, none, none, none, none] = some (0, .bl false) := rfl
  have e1 : ev (CC (k + 2)) G (.cmp .gt (.blt .len (.var 0)) (.glob "MOST")) [some (mvD ms), some (spD' sp), none, none, none, none, none, none, none, none, none, none] = some (0, .bl (decide ((10 : Int) < ((ms.map pr).length : Nat)))) := rfl
  have e2 : decide ((10 : Int) < ((ms.map pr).length : Nat)) = false := decide_eq_false (by rw [List.length_map]; have := g.few; omega)
  rw [e2] at e1
  have e3 : ev (CC (k + 2)) G (.nt (.blt .all (.lc [7] (.one 7) (.itr (.var 0)) .yes (.call "is_move" (.cons (.var 7) .nil) [] .nil)))) [some (mvD ms), some (spD' sp), none, none, none, none, none, none, none, none, none, none] = some (0, .bl false) := by
    rw [ev, ev, h]
    dsimp only
    rw [hb]; rfl
  show ev (CC (k + 2)) G (.or_ (.nt (.blt .islist (.var 0))) (.or_ (.cmp .gt (.blt .len (.var 0)) (.glob "MOST")) (.nt (.blt .all (.lc [7] (.one 7) (.itr (.var 0)) .yes (.call "is_move" (.cons (.var 7) .nil) [] .nil)))))) [some (mvD ms), some (spD' sp), none, none, none, none, none, none, none, none, none, none] = _
  rw [ev, e0]
  dsimp only
  rw [ev, e1]
  dsimp only
  rw [e3]
theorem tg3 (g : Good sp ms) : evB (CC (k + 2)) G (.cmp .lt (.blt .lenset (.var 2)) (.blt .len (.var 2))) (envS ms sp (some (1, inL (ms.map (·.1))))) = some false := by
  refine evB_of (k := 0) ?_
  have hi : ∀ xs : List Int, intsD (xs.map D.int) = some xs := by
    intro xs
    induction xs with
    | nil => rfl
    | cons x xs ih =>
      show (intsD (xs.map D.int)).map (x :: ·) = _
      rw [ih]; rfl
  have h1 : bltD .lenset (inL (ms.map (·.1))) = some (0, .int ((ms.map (·.1)).length : Nat)) := by
    show (match intsD ((ms.map (·.1)).map D.int) with
      | some ns => if ns.length ≤ 4000 then some (0, D.int (setSize ns)) else none
      | none => none) = _
    rw [hi]
    dsimp only
    rw [if_pos (by rw [List.length_map]; have := g.few; omega)]
    unfold setSize
    rw [RZ.firstMet_nodup g.nd _ (Nat.le_refl _), List.take_length]
  have h2 : bltD .len (inL (ms.map (·.1))) = some (0, .int ((ms.map (·.1)).length : Nat)) := by
    show some (0, D.int (((ms.map (·.1)).map D.int).length : Nat)) = _
    rw [List.length_map]
  show ev (CC (k + 2)) G (.cmp .lt (.blt .lenset (.var 2)) (.blt .len (.var 2))) [some (mvD ms), some (spD' sp), some (inL (ms.map (·.1))), none, none, none, none, none, none, none, none, none] = _
  simp only [ev, List.getElem?_cons_zero, List.getElem?_cons_succ, h1, h2, cmpD, Int.lt_irrefl]
  rfl
theorem tg4 (g : Good sp ms) : evB (CC (k + 2)) G (.and_ (.cmp .isnot (.var 1) .non) (.or_ (.nt (.call "is_number" (.cons (.var 1) (.cons (.int 0) (.cons (.glob "PLACES") .nil))) [] .nil)) (.cmp .isin (.var 1) (.bin .add (.var 2) (.lc [7] (.one 7) (.itr (.var 0)) .yes (.idx (.var 7) (.int 1))))))) (envS ms sp (some (1, inL (ms.map (·.1))))) = some false := by
  refine evB_of (k := 0) ?_
  cases sp with
  | none => rfl
  | some s =>
    obtain ⟨⟨h1, h2⟩, h3, h4⟩ := g.sp s rfl
    have e1 : ev (CC (k + 2)) G (.nt (.call "is_number" (.cons (.var 1) (.cons (.int 0) (.cons (.glob "PLACES") .nil))) [] .nil)) [some (mvD ms), some (.int s), some (inL (ms.map (·.1))), none, none, none, none, none, none, none, none, none] = some (0, .bl false) := by
      have := is_number_ok (k + 1) h1 h2
      have e : ev (CC (k + 2)) G (.call "is_number" (.cons (.var 1) (.cons (.int 0) (.cons (.glob "PLACES") .nil))) [] .nil) [some (mvD ms), some (.int s), some (inL (ms.map (·.1))), none, none, none, none, none, none, none, none, none] = some (0, .bl true) := this
      rw [ev, e]; rfl
    have e2 : ev (CC (k + 2)) G (.cmp .isin (.var 1) (.bin .add (.var 2) (.lc [7] (.one 7) (.itr (.var 0)) .yes (.idx (.var 7) (.int 1))))) [some (mvD ms), some (.int s), some (inL (ms.map (·.1))), none, none, none, none, none, none, none, none, none] = some (0, .bl false) := by
      have hlc := (lc7i (C := CC (k + 2)) (ms := ms) (ρ := [some (mvD ms), some (.int s), some (inL (ms.map (·.1))), none, none, none, none, none, none, none, none, none]) rfl rfl).2
      have hadd : addD (inL (ms.map (·.1))) (inL (ms.map (·.2))) = some (1, inL (ms.map (·.1) ++ ms.map (·.2))) := add_in (by rw [List.length_map, List.length_map]; have := g.few; show _ ≤ 100000; omega)
      have hbin : ev (CC (k + 2)) G (.bin .add (.var 2) (.lc [7] (.one 7) (.itr (.var 0)) .yes (.idx (.var 7) (.int 1)))) [some (mvD ms), some (.int s), some (inL (ms.map (·.1))), none, none, none, none, none, none, none, none, none] = some (1, inL (ms.map (·.1) ++ ms.map (·.2))) := by
        rw [ev, hlc]; exact hadd
      rw [ev, hbin]
      show (inD (.int s) (inL (ms.map (·.1) ++ ms.map (·.2)))).map (fun c => (0, D.bl c)) = _
      rw [ind_in, decide_eq_false (fun z => (List.mem_append.mp z).elim h3 h4)]; rfl
    show ev (CC (k + 2)) G (.and_ (.cmp .isnot (.var 1) .non) (.or_ (.nt (.call "is_number" (.cons (.var 1) (.cons (.int 0) (.cons (.glob "PLACES") .nil))) [] .nil)) (.cmp .isin (.var 1) (.bin .add (.var 2) (.lc [7] (.one 7) (.itr (.var 0)) .yes (.idx (.var 7) (.int 1))))))) [some (mvD ms), some (.int s), some (inL (ms.map (·.1))), none, none, none, none, none, none, none, none, none] = _
    have e3 : ev (CC (k + 2)) G (.cmp .isnot (.var 1) .non) [some (mvD ms), some (.int s), some (inL (ms.map (·.1))), none, none, none, none, none, none, none, none, none] = some (0, .bl true) := rfl
    rw [ev, e3]
    dsimp only
    rw [ev, e1]
    dsimp only
    rw [e2]
theorem tg5 (g : Good sp ms) : ev (CC (k + 2)) G (.dc [11, 8] (.many [11, 8]) (.itr (.var 0)) (.cmp .ne (.var 11) (.var 8)) (.var 11) (.var 8)) [some (mvD ms), some (spD' sp), none, none, none, none, none, none, none, none, none, none] = some (1, dicI (left0 ms)) := by
  rw [ev, show evI (CC (k + 2)) G (.itr (.var 0)) [some (mvD ms), some (spD' sp), none, none, none, none, none, none, none, none, none, none] = some (ms.map pr) from rfl]
  dsimp only
  have := dc_mv (C := CC (k + 2)) (G := G) (ρ := wipeR [some (mvD ms), some (spD' sp), none, none, none, none, none, none, none, none, none, none] [11, 8]) (g := 11) (s := 8) (c := .cmp .ne (.var 11) (.var 8)) (fun p => decide (p.1 ≠ p.2)) (fun p => ⟨_, rfl, by
    show (cmpD .ne (.int p.1) (.int p.2)).map (fun c => (0, D.bl c)) = _
    simp only [cmpD, eqd_int]
    show some (0, D.bl (!(p.1 == p.2))) = _
    by_cases h : p.1 = p.2
    · simp [h]
    · simp [h], rfl, rfl⟩) ms [] g.nd
  rw [show ([] : List (Int × Int)).map kv = [] from rfl] at this
  rw [this]; rfl
theorem together_ok {I : List (Int × Int) → List Rw → List (Int × Int) → Prop} (g : Good sp ms) (al : Alg sp I) (h0 : I (left0 ms) [] []) : ∃ rs kept, I [] rs kept ∧ runD (CC (k + 2)) G W d_together [mvD ms, spD' sp] = some (1, rowsD rs) := by
  obtain ⟨rs, kept, y6, y8, y9, y10, hI, hx⟩ := loop_ok (m := mvD ms) (gs := ms.map (·.1)) (k + 1) al h0
  refine ⟨rs, kept, hI, ?_⟩
  unfold runD
  have : PV.exec (CC (k + 2)) G W d_together.body (env0 d_together.N [mvD ms, spD' sp]) = some (.rt 1 (rowsD rs)) := by
    show PV.exec (CC (k + 2)) G W b_together (envS ms sp none) = _
    refine (ex_nx (ρ' := envS ms sp none) ((ex_false (tg1 k g)).trans rfl)).trans ?_
    refine (ex_nx (ex_set (i := 2) (evS_ns (lc7i (ρ := [some (mvD ms), some (spD' sp), none, none, none, none, none, none, none, none, none, none]) rfl rfl).1 (nosh_in _)))).trans ?_
    refine (ex_nx (ρ' := envS ms sp (some (1, inL (ms.map (·.1))))) ((ex_false (tg3 k g)).trans rfl)).trans ?_
    refine (ex_nx (ρ' := envS ms sp (some (1, inL (ms.map (·.1))))) ((ex_false (tg4 k g)).trans rfl)).trans ?_
    refine (ex_nx (ex_set (i := 3) (evS_ns (tg5 k g) (nosh_dic _)))).trans ?_
    refine (ex_nx (ex_set (i := 4) (k := 1) (d := rowsD []) rfl)).trans ?_
    refine (ex_nx (ex_set (i := 5) (k := 1) (d := dicI []) rfl)).trans ?_
    refine (ex_nx hx).trans ?_
    rfl
  rw [this]
theorem together_call {I : List (Int × Int) → List Rw → List (Int × Int) → Prop} (g : Good sp ms) (al : Alg sp I) (h0 : I (left0 ms) [] []) : ∃ rs kept, I [] rs kept ∧ CC (k + 3) "together" [mvD ms] ["spare"] [spD' sp] = some (1, rowsD rs) := together_ok k g al h0
theorem together_call0 {I : List (Int × Int) → List Rw → List (Int × Int) → Prop} (g : Good none ms) (al : Alg none I) (h0 : I (left0 ms) [] []) : ∃ rs kept, I [] rs kept ∧ CC (k + 3) "together" [mvD ms] [] [] = some (1, rowsD rs) := together_ok k g al h0
end
end K7

set_option Elab.async false
set_option linter.all false
set_option maxRecDepth 100000
set_option maxHeartbeats 4000000
/-! k07, part M: what rows do; lists that lead on. -/
namespace K7
open PySem PySem.Spec PyProof.Rows L2 PV
def put1 (st : Int → Int) (a v : Int) : Int → Int := fun x => if x = a then v else st x
def step1 (st : Int → Int) (r : Rw) : Int → Int := if r.sw then put1 (put1 st r.a (st r.b)) r.b (st r.a) else put1 st r.a (st r.b)
def run (rs : List Rw) (st : Int → Int) : Int → Int := rs.foldl step1 st
theorem run_app (a b : List Rw) (st : Int → Int) : run (a ++ b) st = run b (run a st) := List.foldl_append
theorem put1_same (st : Int → Int) (a v : Int) : put1 st a v a = v := if_pos rfl
theorem put1_ne {st : Int → Int} {a v x : Int} (h : x ≠ a) : put1 st a v x = st x := if_neg h
/-- each leads to the next -/
def Lk (f : Int → Option Int) : List Int → Prop
  | [] => True
  | [_] => True
  | x :: y :: t => f x = some y ∧ Lk f (y :: t)
theorem lk_tail {f : Int → Option Int} {x : Int} {t : List Int} (h : Lk f (x :: t)) : Lk f t := by
  cases t with
  | nil => trivial
  | cons y t => exact h.2
theorem lk_append {f : Int → Option Int} : ∀ (u : List Int) {a b : Int} {v : List Int}, Lk f (u ++ [a]) → Lk f (b :: v) → f a = some b → Lk f (u ++ [a] ++ b :: v)
  | [], a, b, v, _, h2, h3 => ⟨h3, h2⟩
  | [x], a, b, v, h1, h2, h3 => ⟨h1.1, h3, h2⟩
  | x :: y :: u, a, b, v, h1, h2, h3 => ⟨h1.1, lk_append (y :: u) h1.2 h2 h3⟩
theorem lk_left {f : Int → Option Int} : ∀ (u v : List Int), Lk f (u ++ v) → Lk f u
  | [], _, _ => trivial
  | [x], _, _ => trivial
  | x :: y :: u, v, h => ⟨h.1, lk_left (y :: u) v h.2⟩
theorem lk_right {f : Int → Option Int} : ∀ (u v : List Int), Lk f (u ++ v) → Lk f v
  | [], _, h => h
  | x :: u, v, h => lk_right u v (lk_tail h)
theorem lk_mid {f : Int → Option Int} : ∀ (u : List Int) {a b : Int} {v : List Int}, Lk f (u ++ a :: b :: v) → f a = some b
  | [], _, _, _, h => h.1
  | x :: u, _, _, _, h => lk_mid u (lk_tail h)
theorem along_cons (sw : Bool) (x y : Int) (t : List Int) : along sw (x :: y :: t) = ⟨sw, x, y⟩ :: along sw (y :: t) := rfl
theorem run_moves {f : Int → Option Int} : ∀ (u : List Int) (z : Int) (st : Int → Int), (u ++ [z]).Nodup → Lk f (u ++ [z]) → (∀ x ∈ u, ∃ b, f x = some b ∧ b ∈ u ++ [z] ∧ run (along false (u ++ [z])) st x = st b) ∧ ∀ x, x ∉ u → run (along false (u ++ [z])) st x = st x
  | [], z, st, _, _ => ⟨(fun _ h => nomatch h), fun x _ => rfl⟩
  | [x], z, st, nd, lk => by
    have hne : x ≠ z := fun e => by simp [e] at nd
    refine ⟨fun a ha => ?_, fun a ha => ?_⟩
    · have e : a = x := by simpa using ha
      subst e
      exact ⟨z, lk.1, by simp, put1_same _ _ _⟩
    · exact put1_ne (by simpa using ha)
  | x :: y :: u, z, st, nd, lk => by
    have nd2 : ((y :: u) ++ [z]).Nodup := (List.nodup_cons.mp nd).2
    have hx : x ∉ (y :: u) ++ [z] := (List.nodup_cons.mp nd).1
    obtain ⟨i1, i2⟩ := run_moves (y :: u) z (put1 st x (st y)) nd2 lk.2
    have e : run (along false (x :: y :: u ++ [z])) st = run (along false ((y :: u) ++ [z])) (put1 st x (st y)) := rfl
    rw [e]
    refine ⟨fun a ha => ?_, fun a ha => ?_⟩
    · rcases List.mem_cons.mp ha with h | h
      · subst h
        refine ⟨y, lk.1, by simp, ?_⟩
        rw [i2 a (fun q => hx (List.mem_append_left _ q))]
        exact put1_same _ _ _
      · obtain ⟨b, h1, h2, h3⟩ := i1 a h
        refine ⟨b, h1, List.mem_cons_of_mem _ h2, ?_⟩
        rw [h3]
        exact put1_ne fun q => hx (q ▸ h2)
    · rw [i2 a (fun q => ha (List.mem_cons_of_mem _ q))]
      exact put1_ne fun q => ha (q ▸ List.mem_cons_self ..)
theorem run_swaps {f : Int → Option Int} : ∀ (p : Int) (t : List Int) (st : Int → Int), (p :: t).Nodup → Lk f (p :: t) → ∃ u z, p :: t = u ++ [z] ∧ (∀ x ∈ u, ∃ b, f x = some b ∧ b ∈ t ∧ run (along true (p :: t)) st x = st b) ∧ run (along true (p :: t)) st z = st p ∧ ∀ x, x ∉ p :: t → run (along true (p :: t)) st x = st x
  | p, [], st, _, _ => ⟨[], p, rfl, (fun _ h => nomatch h), rfl, fun _ _ => rfl⟩
  | x, y :: t, st, nd, lk => by
    have nd2 := (List.nodup_cons.mp nd).2
    have hx := (List.nodup_cons.mp nd).1
    have hxy : x ≠ y := fun e => hx (e ▸ List.mem_cons_self ..)
    have hy := (List.nodup_cons.mp nd2).1
    obtain ⟨u, z, e1, i1, i2, i3⟩ := run_swaps y t (put1 (put1 st x (st y)) y (st x)) nd2 lk.2
    have e : run (along true (x :: y :: t)) st = run (along true (y :: t)) (put1 (put1 st x (st y)) y (st x)) := rfl
    rw [e]
    refine ⟨x :: u, z, by rw [e1]; rfl, fun a ha => ?_, ?_, fun a ha => ?_⟩
    · rcases List.mem_cons.mp ha with h | h
      · subst h
        refine ⟨y, lk.1, by simp, ?_⟩
        rw [i3 a hx, put1_ne hxy, put1_same]
      · obtain ⟨b, h1, h2, h3⟩ := i1 a h
        refine ⟨b, h1, List.mem_cons_of_mem _ h2, ?_⟩
        rw [h3, put1_ne (fun q : b = y => hy (by rw [← q]; exact h2)), put1_ne (fun q : b = x => hx (by rw [← q]; exact List.mem_cons_of_mem _ h2))]
    · rw [i2, put1_same]
    · rw [i3 a (fun q => ha (List.mem_cons_of_mem _ q)), put1_ne (fun q : a = y => ha (by rw [q]; simp)), put1_ne (fun q : a = x => ha (by rw [q]; simp))]
theorem last_eq {u v : List Int} {a b : Int} (h : u ++ [a] = v ++ [b]) : a = b := by
  have := congrArg List.getLast? h
  simpa using this
theorem chain_ne {L : List (Int × Int)} {p : Int} {r : List Int} (h : Chain L p r) : r ≠ [] := fun e => by rw [e] at h; exact h
theorem chain_lk {L : List (Int × Int)} {p : Int} : ∀ {r : List Int}, Chain L p r → Lk (look L) r ∧ ∃ u z, r = u ++ [z] ∧ look L z = some p ∧ p ∉ r.tail
  | [], h => h.elim
  | [z], h => ⟨trivial, [], z, rfl, h, by simp⟩
  | x :: y :: t, h => by
    obtain ⟨h1, u, z, e, h2, h3⟩ := chain_lk h.2.2
    refine ⟨⟨h.1, h1⟩, x :: u, z, by rw [e]; rfl, h2, fun q => ?_⟩
    rcases List.mem_cons.mp q with q | q
    · exact h.2.1 q.symm
    · exact h3 q
theorem chain_of {L : List (Int × Int)} {p : Int} : ∀ {r : List Int} {u : List Int} {z : Int}, r = u ++ [z] → Lk (look L) r → look L z = some p → p ∉ r.tail → Chain L p r
  | [], u, z, e, _, _, _ => by simp at e
  | [x], u, z, e, _, h, _ => by
    have : x = z := by
      cases u with
      | nil => simpa using e
      | cons a u => simp at e
    rw [this]; exact h
  | x :: y :: t, [], z, e, _, _, _ => by simp at e
  | x :: y :: t, a :: u, z, e, lk, h, hp => by
    have e2 : y :: t = u ++ [z] := (List.cons.inj e).2
    refine ⟨lk.1, fun q => hp (by rw [← q]; simp), chain_of e2 lk.2 h fun q => hp (List.mem_cons_of_mem _ q)⟩
theorem chain_uniq {L : List (Int × Int)} {p : Int} : ∀ {x : Int} {r s : List Int}, Chain L p (x :: r) → Chain L p (x :: s) → r = s
  | x, [], [], _, _ => rfl
  | x, [], y :: s, h1, h2 => by
    have a : look L x = some p := h1
    have b : look L x = some y := h2.1
    rw [a] at b; cases b
    exact absurd rfl h2.2.1
  | x, y :: r, [], h1, h2 => by
    have a : look L x = some p := h2
    have b : look L x = some y := h1.1
    rw [a] at b; cases b
    exact absurd rfl h1.2.1
  | x, y :: r, y' :: s, h1, h2 => by
    have a := h1.1
    rw [h2.1] at a; cases a
    rw [chain_uniq h1.2.2 h2.2.2]
/-- along a ring each place's source is in it -/
theorem chain_next {L : List (Int × Int)} {p : Int} {t : List Int} (h : Chain L p (p :: t)) : ∀ x ∈ p :: t, ∃ b, look L x = some b ∧ b ∈ p :: t := by
  have gen : ∀ {r : List Int}, Chain L p r → ∀ x ∈ r, ∃ b, look L x = some b ∧ (b = p ∨ b ∈ r) := by
    intro r
    induction r with
    | nil => intro h; exact h.elim
    | cons x r ih =>
      intro h a ha
      cases r with
      | nil =>
        have e : a = x := by simpa using ha
        rw [e]; exact ⟨p, h, .inl rfl⟩
      | cons y r =>
        rcases List.mem_cons.mp ha with e | ha
        · rw [e]; exact ⟨y, h.1, .inr (by simp)⟩
        · obtain ⟨b, h1, h2⟩ := ih h.2.2 a ha
          exact ⟨b, h1, h2.imp id (List.mem_cons_of_mem _)⟩
  intro x hx
  obtain ⟨b, h1, h2⟩ := gen h x hx
  exact ⟨b, h1, h2.elim (fun e => e ▸ List.mem_cons_self ..) id⟩
/-- and each place is the source of one in it -/
theorem chain_prev {L : List (Int × Int)} {p : Int} {t : List Int} (h : Chain L p (p :: t)) : ∀ x ∈ p :: t, ∃ a ∈ p :: t, look L a = some x := by
  obtain ⟨h1, u, z, e, h2, h3⟩ := chain_lk h
  have gen : ∀ {r : List Int}, Lk (look L) r → ∀ x ∈ r.tail, ∃ a ∈ r, look L a = some x := by
    intro r
    induction r with
    | nil => intro _ x hx; cases hx
    | cons y r ih =>
      intro lk x hx
      cases r with
      | nil => cases hx
      | cons b r =>
        rcases List.mem_cons.mp hx with e | hx
        · exact ⟨y, by simp, by rw [e]; exact lk.1⟩
        · obtain ⟨a, ha, q⟩ := ih lk.2 x hx
          exact ⟨a, List.mem_cons_of_mem _ ha, q⟩
  intro x hx
  rcases List.mem_cons.mp hx with rfl | hx
  · exact ⟨z, by rw [e]; simp, h2⟩
  · exact gen h1 x hx
theorem chain_mono {L M : List (Int × Int)} {p : Int} (h : ∀ a b, look L a = some b → look M a = some b) : ∀ {r : List Int}, Chain L p r → Chain M p r
  | [], q => q
  | [z], q => h z p q
  | x :: y :: t, q => ⟨h x y q.1, q.2.1, chain_mono h q.2.2⟩
/-- what the rows for a ring do -/
theorem rr_run {sp : Option Int} {L kept : List (Int × Int)} {p : Int} {t : List Int} {rows : List Rw} {st : Int → Int} (h : RR sp (p :: t) kept rows) (hc : Chain L p (p :: t)) (nd : (p :: t).Nodup) (hsp : ∀ s, sp = some s → s ∉ p :: t)
    (hk : ∀ x c, x ∈ p :: t → look kept x = some c → st c = st x ∧ c ∉ p :: t ∧ sp ≠ some c) : (∀ x ∈ p :: t, ∃ b, look L x = some b ∧ run rows st x = st b) ∧ ∀ x, x ∉ p :: t → sp ≠ some x → run rows st x = st x := by
  obtain ⟨h1, u0, z0, e0, h2, h3⟩ := chain_lk hc
  generalize hr : p :: t = r at *
  cases h with
  | swaps =>
    obtain ⟨u, z, e1, i1, i2, i3⟩ := run_swaps p t st (by rw [hr]; exact nd) (by rw [hr]; exact h1)
    rw [hr] at e1 i1 i2 i3
    have ez : z = z0 := by
      have := e1.symm.trans e0
      have := congrArg List.getLast? this
      simpa using this
    refine ⟨fun x hx => ?_, fun x hx _ => i3 x hx⟩
    rw [e1] at hx
    rcases List.mem_append.mp hx with q | q
    · obtain ⟨b, q1, q2, q3⟩ := i1 x q
      exact ⟨b, q1, q3⟩
    · have : x = z := by simpa using q
      rw [this, i2]
      exact ⟨p, by rw [ez]; exact h2, rfl⟩
  | @kept pre post u q c s z _ k1 k2 k3 =>
    have hq : q ∈ pre ++ q :: post := by simp
    obtain ⟨c1, c2, c3⟩ := hk q c hq k2
    -- the turned list
    have ndT : (u ++ [z]).Nodup := by
      rw [← k3]
      exact (List.perm_append_comm.nodup_iff).mp nd
    have lkT : Lk (look L) (u ++ [z]) ∧ look L z = some q := by
      rw [← k3]
      cases pre with
      | nil =>
        rw [List.append_nil] at k3 ⊢
        have eq : q = p := (List.cons.inj hr).1.symm
        refine ⟨h1, ?_⟩
        have : z = z0 := by
          have := k3.symm.trans e0
          have := congrArg List.getLast? this
          simpa using this
        rw [this, eq]; exact h2
      | cons a pre =>
        have ea : a = p := (List.cons.inj hr).1.symm
        subst ea
        obtain ⟨v, y, hv⟩ := last_of q post
        have ey : y = z0 := by
          have e := e0
          rw [hv, ← List.append_assoc] at e
          exact last_eq e
        obtain ⟨v2, y2, hv2⟩ := last_of a pre
        have ez : y2 = z := by
          have e := k3
          rw [hv2, ← List.append_assoc] at e
          exact last_eq e
        refine ⟨?_, ?_⟩
        · rw [hv]
          refine lk_append v ?_ (lk_left _ _ h1) (by rw [ey]; exact h2)
          rw [← hv]
          exact lk_right (a :: pre) _ h1
        · rw [← ez]
          rw [hv2, List.append_assoc] at h1
          exact lk_mid v2 h1
    obtain ⟨i1, i2⟩ := run_moves u z st ndT lkT.1
    rw [k3, run_app]
    have hzu : z ∉ u := fun w => by
      rw [List.nodup_append] at ndT
      exact ndT.2.2 z w z (by simp) rfl
    have mem : ∀ x, x ∈ pre ++ q :: post ↔ x ∈ u ++ [z] := fun x => by
      rw [← k3]
      exact List.perm_append_comm.mem_iff
    have last : ∀ x, run [⟨false, z, c⟩] (run (along false (u ++ [z])) st) x = if x = z then run (along false (u ++ [z])) st c else run (along false (u ++ [z])) st x := fun x => rfl
    have hcu : run (along false (u ++ [z])) st c = st q := by
      rw [i2 c (fun w => c2 ((mem c).mpr (List.mem_append_left _ w)))]; exact c1
    refine ⟨fun x hx => ?_, fun x hx _ => ?_⟩
    · rw [last]
      by_cases ex : x = z
      · rw [if_pos ex, hcu, ex]
        exact ⟨q, lkT.2, rfl⟩
      · rw [if_neg ex]
        rcases List.mem_append.mp ((mem x).mp hx) with w | w
        · obtain ⟨b, q1, q2, q3⟩ := i1 x w
          exact ⟨b, q1, q3⟩
        · exact absurd (by simpa using w) ex
    · have hx' : x ∉ u ++ [z] := fun w => hx ((mem x).mpr w)
      rw [last, if_neg (fun e => hx' (by rw [e]; simp)), i2 x (fun w => hx' (List.mem_append_left _ w))]
  | @pure p' s z t' u _ k1 k2 =>
    have ep : p' = p := (List.cons.inj hr).1.symm
    subst ep
    have hs := hsp s rfl
    have e : run (⟨false, s, p'⟩ :: along false (p' :: t') ++ [⟨false, z, s⟩]) st = run [⟨false, z, s⟩] (run (along false (p' :: t')) (put1 st s (st p'))) := by
      rw [run_app]; rfl
    rw [e, k2]
    rw [k2] at nd h1 hs
    obtain ⟨i1, i2⟩ := run_moves u z (put1 st s (st p')) nd h1
    have ez : z = z0 := by
      have := k2.symm.trans e0
      have := congrArg List.getLast? this
      simpa using this
    have last : ∀ x, run [⟨false, z, s⟩] (run (along false (u ++ [z])) (put1 st s (st p'))) x = if x = z then run (along false (u ++ [z])) (put1 st s (st p')) s else run (along false (u ++ [z])) (put1 st s (st p')) x := fun x => rfl
    have hsu : run (along false (u ++ [z])) (put1 st s (st p')) s = st p' := by
      rw [i2 s (fun w => hs (List.mem_append_left _ w)), put1_same]
    refine ⟨fun x hx => ?_, fun x hx hxs => ?_⟩
    · rw [last]
      by_cases ex : x = z
      · rw [if_pos ex, hsu, ex, ez]
        exact ⟨p', h2, rfl⟩
      · rw [if_neg ex]
        rcases List.mem_append.mp hx with w | w
        · obtain ⟨b, q1, q2, q3⟩ := i1 x w
          refine ⟨b, q1, ?_⟩
          rw [q3, put1_ne (fun w : b = s => hs (by rw [← w]; exact q2))]
        · exact absurd (by simpa using w) ex
    · rw [last, if_neg (fun e => hx (by rw [e]; simp)), i2 x (fun w => hx (List.mem_append_left _ w)), put1_ne (fun w => hxs (by rw [w]))]
end K7

set_option Elab.async false
set_option linter.all false
set_option maxRecDepth 100000
set_option maxHeartbeats 4000000
/-! k07, part N: together's steps keep what is due. -/
namespace K7
open PySem PySem.Spec PyProof.Rows L2 PV
section
variable {α : Type}
theorem ph_le : ∀ {a b : List α}, a.Nodup → (∀ x ∈ a, x ∈ b) → a.length ≤ b.length
  | [], b, _, _ => Nat.zero_le _
  | x :: a, b, nd, h => by
    obtain ⟨u, v, rfl⟩ := List.append_of_mem (h x (List.mem_cons_self ..))
    have nd' := List.nodup_cons.mp nd
    have := ph_le (b := u ++ v) nd'.2 fun y hy => by
      have := h y (List.mem_cons_of_mem _ hy)
      rcases List.mem_append.mp this with q | q
      · exact List.mem_append_left _ q
      · rcases List.mem_cons.mp q with q | q
        · exact absurd (q ▸ hy) nd'.1
        · exact List.mem_append_right _ q
    simp at this ⊢
    omega
theorem ph_eq : ∀ {a b : List α}, a.Nodup → (∀ x ∈ a, x ∈ b) → b.length ≤ a.length → b.Nodup ∧ ∀ x ∈ b, x ∈ a
  | [], b, _, _, h => by
    have : b = [] := List.eq_nil_of_length_eq_zero (Nat.le_zero.mp h)
    subst this
    exact ⟨List.nodup_nil, (fun _ h => nomatch h)⟩
  | x :: a, b, nd, h, hl => by
    obtain ⟨u, v, rfl⟩ := List.append_of_mem (h x (List.mem_cons_self ..))
    have nd' := List.nodup_cons.mp nd
    obtain ⟨i1, i2⟩ := ph_eq (a := a) (b := u ++ v) nd'.2 (fun y hy => by
      have := h y (List.mem_cons_of_mem _ hy)
      rcases List.mem_append.mp this with q | q
      · exact List.mem_append_left _ q
      · rcases List.mem_cons.mp q with q | q
        · exact absurd (q ▸ hy) nd'.1
        · exact List.mem_append_right _ q) (by simp at hl ⊢; omega)
    have pm : (u ++ x :: v).Perm (x :: (u ++ v)) := List.perm_middle
    refine ⟨pm.nodup_iff.mpr (List.nodup_cons.mpr ⟨fun q => nd'.1 (i2 x q), i1⟩), fun y hy => ?_⟩
    rcases List.mem_cons.mp (pm.mem_iff.mp hy) with q | q
    · rw [q]; exact List.mem_cons_self ..
    · exact List.mem_cons_of_mem _ (i2 y q)
theorem nodup_inj {β : Type} {f : α → β} : ∀ {l : List α}, (l.map f).Nodup → ∀ a ∈ l, ∀ b ∈ l, f a = f b → a = b
  | [], _, a, ha, _, _, _ => by cases ha
  | x :: l, nd, a, ha, b, hb, e => by
    rw [List.map_cons, List.nodup_cons] at nd
    rcases List.mem_cons.mp ha with qa | qa <;> rcases List.mem_cons.mp hb with qb | qb
    · rw [qa, qb]
    · exact absurd (by rw [← qa, e]; exact List.mem_map_of_mem qb) nd.1
    · exact absurd (by rw [← qb, ← e]; exact List.mem_map_of_mem qa) nd.1
    · exact nodup_inj nd.2 a qa b qb e
end
def keys (L : List (Int × Int)) : List Int := L.map (·.1)
def vals (L : List (Int × Int)) : List Int := L.map (·.2)
theorem key_mem {L : List (Int × Int)} {x y : Int} (h : (x, y) ∈ L) : x ∈ keys L := List.mem_map_of_mem (f := (·.1)) h
theorem val_mem {L : List (Int × Int)} {x y : Int} (h : (x, y) ∈ L) : y ∈ vals L := List.mem_map_of_mem (f := (·.2)) h
theorem mem_key {L : List (Int × Int)} {x : Int} (h : x ∈ keys L) : ∃ y, (x, y) ∈ L := by
  obtain ⟨⟨a, b⟩, h1, h2⟩ := List.mem_map.mp h
  have : a = x := h2
  subst this
  exact ⟨b, h1⟩
theorem mem_val {L : List (Int × Int)} {y : Int} (h : y ∈ vals L) : ∃ x, (x, y) ∈ L := by
  obtain ⟨⟨a, b⟩, h1, h2⟩ := List.mem_map.mp h
  have : b = y := h2
  subst this
  exact ⟨a, h1⟩
theorem look_key {L : List (Int × Int)} {x : Int} (h : x ∈ keys L) : ∃ y, look L x = some y := by
  cases hz : look L x with
  | some y => exact ⟨y, rfl⟩
  | none => exact absurd h (look_none.mp hz)
/-- no place is free: the places left are turned among themselves -/
theorem perm_of {L : List (Int × Int)} (nd : (keys L).Nodup) (h : freeL L = []) : (vals L).Nodup ∧ (∀ x ∈ keys L, x ∈ vals L) ∧ ∀ y ∈ vals L, y ∈ keys L := by
  have h1 : ∀ x ∈ keys L, x ∈ vals L := fun x hx => by
    by_cases z : x ∈ vals L
    · exact z
    · have : x ∈ freeL L := List.mem_filter.mpr ⟨hx, decide_eq_true z⟩
      rw [h] at this; cases this
  obtain ⟨a, b⟩ := ph_eq nd h1 (by simp [keys, vals])
  exact ⟨a, h1, b⟩
theorem lk_pred {f : Int → Option Int} : ∀ {r : List Int}, Lk f r → ∀ x ∈ r.tail, ∃ a ∈ r.dropLast, f a = some x
  | [], _, x, hx => by cases hx
  | [y], _, x, hx => by cases hx
  | y :: b :: r, lk, x, hx => by
    rcases List.mem_cons.mp hx with e | hx
    · exact ⟨y, by simp, by rw [e]; exact lk.1⟩
    · obtain ⟨a, ha, q⟩ := lk_pred lk.2 x hx
      exact ⟨a, by rw [List.dropLast_cons_of_ne_nil (by simp)]; exact List.mem_cons_of_mem _ ha, q⟩
theorem ring_ex {L : List (Int × Int)} {p : Int} (nd : (keys L).Nodup) (vd : (vals L).Nodup) (hv : ∀ y ∈ vals L, y ∈ keys L) : ∀ (n : Nat) (u : List Int) (x : Int) (s : List Int), u ++ [x] = p :: s → Lk (look L) (u ++ [x]) → (u ++ [x]).Nodup → (∀ y ∈ u ++ [x], y ∈ keys L) → L.length + 1 ≤ (u ++ [x]).length + n → ∃ t, Chain L p (p :: t) ∧ (p :: t).Nodup ∧ ∀ y ∈ p :: t, y ∈ keys L
  | 0, u, x, s, e, lk, pd, hk, hl => by
    have := ph_le pd hk
    unfold keys at this
    rw [List.length_map] at this
    omega
  | n + 1, u, x, s, e, lk, pd, hk, hl => by
    obtain ⟨y, hy⟩ := look_key (hk x (by simp))
    have hyk : y ∈ keys L := hv y (val_mem (look_mem hy))
    by_cases hp : y = p
    · subst hp
      refine ⟨s, ?_, by rw [← e]; exact pd, by rw [← e]; exact hk⟩
      rw [← e]
      refine chain_of rfl lk hy ?_
      rw [e]
      rw [e] at pd
      exact (List.nodup_cons.mp pd).1
    · by_cases hm : y ∈ u ++ [x]
      · rw [e] at hm
        rcases List.mem_cons.mp hm with q | q
        · exact absurd q hp
        · obtain ⟨a, ha, qa⟩ := lk_pred (r := u ++ [x]) lk y (by rw [e]; exact q)
          rw [List.dropLast_concat] at ha
          have := nodup_inj vd (a, y) (look_mem qa) (x, y) (look_mem hy) rfl
          have ea : a = x := congrArg Prod.fst this
          rw [List.nodup_append] at pd
          exact absurd ea (pd.2.2 a ha x (by simp))
      · refine ring_ex nd vd hv n (u ++ [x]) y (s ++ [y]) (by rw [e]; rfl) (lk_append u lk trivial hy) ?_ ?_ ?_
        · rw [List.nodup_append]
          exact ⟨pd, by simp, fun a ha b hb => fun q => hm (by
            have : b = y := by simpa using hb
            rw [← this, ← q]; exact ha)⟩
        · intro z hz
          rcases List.mem_append.mp hz with q | q
          · exact hk z q
          · have : z = y := by simpa using q
            rw [this]; exact hyk
        · simp at hl ⊢; omega
def Per (l0 : List (Int × Int)) (g : Int) : Prop := ∃ t, Chain l0 g (g :: t)
/-- the rings, in the order of their first places -/
inductive RSeq (l0 : List (Int × Int)) : List Int → List (Int × Int) → List (List Int) → Prop
  | nil {seen : List Int} : RSeq l0 seen [] []
  | skip {seen : List Int} {g s : Int} {todo : List (Int × Int)} {R : List (List Int)} : (g ∈ seen ∨ ¬ Per l0 g) → RSeq l0 seen todo R → RSeq l0 seen ((g, s) :: todo) R
  | ring {seen : List Int} {g s : Int} {t : List Int} {todo : List (Int × Int)} {R : List (List Int)} : g ∉ seen → Chain l0 g (g :: t) → RSeq l0 (seen ++ (g :: t)) todo R → RSeq l0 seen ((g, s) :: todo) ((g :: t) :: R)
theorem rseq_skips {l0 : List (Int × Int)} {seen : List Int} : ∀ {a b : List (Int × Int)} {R : List (List Int)}, (∀ e ∈ a, e.1 ∈ seen ∨ ¬ Per l0 e.1) → RSeq l0 seen (a ++ b) R → RSeq l0 seen b R
  | [], b, R, _, h => h
  | e :: a, b, R, hs, h => by
    cases h with
    | skip _ h => exact rseq_skips (fun e he => hs e (List.mem_cons_of_mem _ he)) h
    | ring h1 h2 h3 =>
      rcases hs _ (List.mem_cons_self ..) with q | q
      · exact absurd q h1
      · exact absurd ⟨_, h2⟩ q
def pureB (l0 : List (Int × Int)) (r : List Int) : Bool := (l0.filter fun e => decide (e.2 ∈ r) && decide (e.1 ∉ r)).isEmpty
def pureC (l0 : List (Int × Int)) (R : List (List Int)) : Nat := (R.filter (pureB l0)).length
end K7

set_option Elab.async false
set_option linter.all false
set_option maxRecDepth 100000
set_option maxHeartbeats 4000000
/-! k07, part O: together's steps keep what is due. -/
namespace K7
open PySem PySem.Spec PyProof.Rows L2 PV
structure Base (l0 : List (Int × Int)) (sp : Option Int) : Prop where
  nd : (keys l0).Nodup
  few : l0.length ≤ 10
  spk : ∀ s, sp = some s → s ∉ keys l0 ∧ s ∉ vals l0
/-- a place in a ring -/
def Cyc (l0 : List (Int × Int)) (x : Int) : Prop := ∃ p t, Chain l0 p (p :: t) ∧ x ∈ p :: t
/-- a place that rows may name -/
def Pl' (l0 : List (Int × Int)) (sp : Option Int) (x : Int) : Prop := x ∈ keys l0 ∨ x ∈ vals l0 ∨ sp = some x
def lenOk (l0 : List (Int × Int)) (R : List (List Int)) (n m : Nat) : Option Int → Prop
  | none => n + R.length + m = l0.length
  | some _ => n + m = l0.length + pureC l0 R
structure Inv (l0 : List (Int × Int)) (sp : Option Int) (R0 : List (List Int)) (L : List (Int × Int)) (rs : List Rw) (kept : List (Int × Int)) : Prop where
  sub : L.Sublist l0
  A : ∀ x, x ∉ keys l0 → sp ≠ some x → run rs id x = x
  B : ∀ x ∈ keys L, run rs id x = x
  C : ∀ x y, (x, y) ∈ l0 → x ∉ keys L → run rs id x = y
  D : ∀ x y, (x, y) ∈ L → y ∈ keys l0 → y ∈ keys L
  K : ∀ s c, look kept s = some c → run rs id c = s ∧ (c, s) ∈ l0 ∧ c ∉ keys L
  kl : kept.length + L.length ≤ l0.length
  pl : ∀ r ∈ rs, Pl' l0 sp r.a ∧ Pl' l0 sp r.b ∧ (sp ≠ none → r.sw = false)
  rl : rs.length ≤ 2 * (l0.length - L.length)
  cnt : ∃ done todo seen Rd Rl, l0 = done ++ todo ∧ RSeq l0 seen todo Rl ∧ R0 = Rd ++ Rl ∧ (∀ x ∈ seen, x ∈ keys l0 ∧ x ∉ keys L) ∧ (∀ g ∈ keys done, Per l0 g → g ∈ seen) ∧ (∀ g, Cyc l0 g → g ∈ seen ∨ g ∈ keys L) ∧
    (∀ g s, g ∈ seen → (g, s) ∈ l0 → s ∈ seen) ∧ (∀ g s, (g, s) ∈ l0 → g ∉ keys L → g ∉ seen → (look kept s).isSome = true) ∧ lenOk l0 Rd rs.length L.length sp
section
variable {l0 : List (Int × Int)} {sp : Option Int} {R0 : List (List Int)} {L : List (Int × Int)} {rs : List Rw} {kept : List (Int × Int)}
theorem sub_keys (h : L.Sublist l0) : (keys L).Sublist (keys l0) := h.map _
theorem mem_filt {f0 x : Int} : x ∈ keys (L.filter fun p => decide (p.1 ≠ f0)) ↔ x ∈ keys L ∧ x ≠ f0 := by
  constructor
  · intro h
    obtain ⟨y, hy⟩ := mem_key h
    obtain ⟨h1, h2⟩ := List.mem_filter.mp hy
    exact ⟨key_mem h1, of_decide_eq_true h2⟩
  · rintro ⟨h1, h2⟩
    obtain ⟨y, hy⟩ := mem_key h1
    exact key_mem (List.mem_filter.mpr ⟨hy, decide_eq_true h2⟩)
theorem mem_filtR {r : List Int} {x : Int} : x ∈ keys (L.filter fun e => decide (e.1 ∉ r)) ↔ x ∈ keys L ∧ x ∉ r := by
  constructor
  · intro h
    obtain ⟨y, hy⟩ := mem_key h
    obtain ⟨h1, h2⟩ := List.mem_filter.mp hy
    exact ⟨key_mem h1, of_decide_eq_true h2⟩
  · rintro ⟨h1, h2⟩
    obtain ⟨y, hy⟩ := mem_key h1
    exact key_mem (List.mem_filter.mpr ⟨hy, decide_eq_true h2⟩)
theorem uniq_src (b : Base l0 sp) {x y z : Int} (h1 : (x, y) ∈ l0) (h2 : (x, z) ∈ l0) : y = z := by
  have := nodup_inj b.nd (x, y) h1 (x, z) h2 rfl
  exact congrArg Prod.snd this
/-- a source that is left still has what it had -/
theorem src_st (b : Base l0 sp) (I : Inv l0 sp R0 L rs kept) {x y : Int} (h : (x, y) ∈ L) : run rs id y = y := by
  by_cases hy : y ∈ keys l0
  · exact I.B y (I.D x y h hy)
  · exact I.A y hy fun e => (b.spk y e).2 (val_mem (I.sub.subset h))
theorem len_filt (nd : (keys L).Nodup) {f0 v : Int} (h : (f0, v) ∈ L) : (L.filter fun p => decide (p.1 ≠ f0)).length + 1 = L.length := by
  induction L with
  | nil => cases h
  | cons e L ih =>
    unfold keys at nd
    rw [List.map_cons, List.nodup_cons] at nd
    rcases List.mem_cons.mp h with q | q
    · subst q
      have : (L.filter fun p => decide (p.1 ≠ f0)) = L := List.filter_eq_self.mpr fun p hp => decide_eq_true fun z : p.1 = f0 => nd.1 (by
        show f0 ∈ _
        rw [← z]; exact List.mem_map_of_mem hp)
      rw [List.filter_cons_of_neg (by simp), this]
      rfl
    · have hne : e.1 ≠ f0 := fun z => nd.1 (by rw [z]; exact key_mem q)
      rw [List.filter_cons_of_pos (p := fun p : Int × Int => decide (p.1 ≠ f0)) (decide_eq_true hne), List.length_cons, List.length_cons, ih nd.2 q]
theorem inv_free (b : Base l0 sp) {f0 s : Int} {fr : List Int} (I : Inv l0 sp R0 L rs kept) (hf : freeL L = f0 :: fr) (hs : look L f0 = some s) : Inv l0 sp R0 (L.filter fun p => decide (p.1 ≠ f0)) (rs ++ [⟨false, f0, s⟩]) (putI kept s f0) := by
  have hm := look_mem hs
  have hm0 := I.sub.subset hm
  have ndL : (keys L).Nodup := (sub_keys I.sub).nodup b.nd
  have hfree : f0 ∉ vals L := by
    have : f0 ∈ freeL L := by rw [hf]; exact List.mem_cons_self ..
    exact of_decide_eq_true (List.mem_filter.mp this).2
  have est : ∀ x, run (rs ++ [⟨false, f0, s⟩]) id x = if x = f0 then s else run rs id x := fun x => by
    rw [run_app]
    show (if x = f0 then run rs id s else run rs id x) = _
    rw [src_st b I hm]
  have hl := len_filt ndL hm
  have hLl : L.length ≤ l0.length := I.sub.length_le
  have npf : ¬ Cyc l0 f0 := by
    rintro ⟨p, t, ht, hin⟩
    obtain ⟨a, ha, qa⟩ := chain_prev ht f0 hin
    obtain ⟨done, todo, seen, Rd, Rl, c1, c2, c3, c4, c5, c6, c7, c8, c9⟩ := I.cnt
    have hper : Cyc l0 a := ⟨p, t, ht, ha⟩
    rcases c6 a hper with q | q
    · have := c7 a f0 q (look_mem qa)
      exact (c4 f0 this).2 (key_mem hm)
    · obtain ⟨y, hy⟩ := mem_key q
      have := uniq_src b (I.sub.subset hy) (look_mem qa)
      subst this
      exact hfree (val_mem hy)
  refine ⟨(List.filter_sublist ..).trans I.sub, fun x h1 h2 => ?_, fun x hx => ?_, fun x y hxy hx => ?_, fun x y hxy hy => ?_, fun x c hc => ?_, ?_, fun r hr => ?_, ?_, ?_⟩
  · rw [est, if_neg (fun e : x = f0 => h1 (by rw [e]; exact key_mem hm0))]
    exact I.A x h1 h2
  · obtain ⟨h1, h2⟩ := mem_filt.mp hx
    rw [est, if_neg h2]
    exact I.B x h1
  · rw [est]
    by_cases e : x = f0
    · rw [if_pos e]
      subst e
      exact uniq_src b hm0 hxy
    · rw [if_neg e]
      exact I.C x y hxy fun z => hx (mem_filt.mpr ⟨z, e⟩)
  · have h1 := (List.mem_filter.mp hxy).1
    exact mem_filt.mpr ⟨I.D x y h1 hy, fun e => hfree (e ▸ val_mem h1)⟩
  · rw [look_putI] at hc
    by_cases e : x = s
    · rw [if_pos e] at hc
      cases hc
      subst e
      exact ⟨by rw [est, if_pos rfl], hm0, fun z => (mem_filt.mp z).2 rfl⟩
    · rw [if_neg e] at hc
      obtain ⟨k1, k2, k3⟩ := I.K x c hc
      exact ⟨by rw [est, if_neg (fun z : c = f0 => k3 (by rw [z]; exact key_mem hm))]; exact k1, k2, fun z => k3 (mem_filt.mp z).1⟩
  · have := putI_len kept s f0
    have := I.kl
    omega
  · rcases List.mem_append.mp hr with q | q
    · exact I.pl r q
    · have e : r = ⟨false, f0, s⟩ := by simpa using q
      subst e
      exact ⟨.inl (key_mem hm0), .inr (.inl (val_mem hm0)), fun _ => rfl⟩
  · have := I.rl
    rw [List.length_append]
    show rs.length + 1 ≤ _
    omega
  · obtain ⟨done, todo, seen, Rd, Rl, c1, c2, c3, c4, c5, c6, c7, c8, c9⟩ := I.cnt
    refine ⟨done, todo, seen, Rd, Rl, c1, c2, c3, fun x hx => ⟨(c4 x hx).1, fun z => (c4 x hx).2 (mem_filt.mp z).1⟩, c5, fun g hg => ?_, c7, fun g y h1 h2 h3 => ?_, ?_⟩
    · rcases c6 g hg with q | q
      · exact .inl q
      · exact .inr (mem_filt.mpr ⟨q, fun e => npf (e ▸ hg)⟩)
    · rw [look_putI]
      by_cases e : y = s
      · rw [if_pos e]; rfl
      · rw [if_neg e]
        refine c8 g y h1 (fun z => h2 (mem_filt.mpr ⟨z, fun e2 => e ?_⟩)) h3
        subst e2
        exact uniq_src b h1 hm0
    · rw [List.length_append]
      cases sp with
      | none =>
        show rs.length + 1 + Rd.length + _ = _
        have : rs.length + Rd.length + L.length = l0.length := c9
        omega
      | some v =>
        show rs.length + 1 + _ = _
        have : rs.length + L.length = l0.length + pureC l0 Rd := c9
        omega
theorem len_filtR (nd : (keys L).Nodup) : ∀ {r : List Int}, r.Nodup → (∀ x ∈ r, x ∈ keys L) → (L.filter fun e => decide (e.1 ∉ r)).length + r.length = L.length := by
  intro r
  induction r generalizing L with
  | nil => intro _ _; rw [List.filter_eq_self.mpr fun _ _ => by simp]; rfl
  | cons x r ih =>
    intro rd hr
    have rd' := List.nodup_cons.mp rd
    obtain ⟨v, hv⟩ := mem_key (hr x (List.mem_cons_self ..))
    have h1 := len_filt nd hv
    have h2 := ih (L := L.filter fun p => decide (p.1 ≠ x)) ((sub_keys (List.filter_sublist ..)).nodup nd) rd'.2 fun y hy => mem_filt.mpr ⟨hr y (List.mem_cons_of_mem _ hy), fun e => rd'.1 (e ▸ hy)⟩
    have h3 : ((L.filter fun p => decide (p.1 ≠ x)).filter fun e => decide (e.1 ∉ r)) = L.filter fun e => decide (e.1 ∉ x :: r) := by
      rw [List.filter_filter]
      refine congrArg (fun f => List.filter f L) (funext fun e => ?_)
      rw [← Bool.decide_and]
      exact decide_eq_decide.mpr ⟨fun ⟨a, b⟩ z => (List.mem_cons.mp z).elim b a, fun a => ⟨fun z => a (List.mem_cons_of_mem _ z), fun z => a (by rw [z]; exact List.mem_cons_self ..)⟩⟩
    rw [h3] at h2
    rw [List.length_cons]
    omega
theorem rr_pl {p : Int} {t : List Int} {rows : List Rw} (h : RR sp (p :: t) kept rows) (hr : ∀ x ∈ p :: t, x ∈ keys l0) (hk : ∀ s c, look kept s = some c → c ∈ keys l0) : ∀ r ∈ rows, Pl' l0 sp r.a ∧ Pl' l0 sp r.b ∧ (sp ≠ none → r.sw = false) := by
  have al : ∀ (sw : Bool) (q : List Int), (∀ x ∈ q, x ∈ keys l0) → ∀ r ∈ along sw q, Pl' l0 sp r.a ∧ Pl' l0 sp r.b ∧ r.sw = sw := by
    intro sw q hq r hr
    obtain ⟨⟨a, b⟩, h1, h2⟩ := List.mem_map.mp hr
    subst h2
    have h3 := List.of_mem_zip h1
    exact ⟨.inl (hq a h3.1), .inl (hq b (List.mem_of_mem_drop h3.2)), rfl⟩
  generalize hre : p :: t = r0 at h hr
  intro r hrow
  cases h with
  | swaps =>
    obtain ⟨h1, h2, _⟩ := al true _ hr r hrow
    exact ⟨h1, h2, fun z => absurd rfl z⟩
  | @kept pre post u q c s z _ k1 k2 k3 =>
    have hT : ∀ x ∈ q :: post ++ pre, x ∈ keys l0 := fun x hx => hr x (List.perm_append_comm.mem_iff.mp hx)
    rcases List.mem_append.mp hrow with w | w
    · obtain ⟨h1, h2, h3⟩ := al false _ hT r w
      exact ⟨h1, h2, fun _ => h3⟩
    · have e : r = ⟨false, z, c⟩ := by simpa using w
      subst e
      exact ⟨.inl (hT z (by rw [k3]; simp)), .inl (hk q c k2), fun _ => rfl⟩
  | @pure p' s z t' u _ k1 k2 =>
    rcases List.mem_append.mp hrow with w | w
    · rcases List.mem_cons.mp w with w | w
      · subst w
        exact ⟨.inr (.inr rfl), .inl (hr p' (List.mem_cons_self ..)), fun _ => rfl⟩
      · obtain ⟨h1, h2, h3⟩ := al false _ hr r w
        exact ⟨h1, h2, fun _ => h3⟩
    · have e : r = ⟨false, z, s⟩ := by simpa using w
      subst e
      exact ⟨.inl (hr z (by rw [k2]; simp)), .inr (.inr rfl), fun _ => rfl⟩
end
end K7

set_option Elab.async false
set_option linter.all false
set_option maxRecDepth 100000
set_option maxHeartbeats 4000000
/-! k07, part P: together's rings; what it comes to. -/
namespace K7
open PySem PySem.Spec PyProof.Rows L2 PV
section
variable {l0 : List (Int × Int)} {sp : Option Int} {R0 : List (List Int)} {L : List (Int × Int)} {rs : List Rw} {kept : List (Int × Int)}
theorem sub_head : ∀ {l L : List (Int × Int)} {e : Int × Int}, (e :: L).Sublist l → l.Nodup → ∃ a c, l = a ++ e :: c ∧ ∀ x ∈ a, x ∉ e :: L
  | [], L, e, h, _ => by cases h
  | y :: l, L, e, h, nd => by
    have nd' := List.nodup_cons.mp nd
    cases h with
    | cons _ h =>
      obtain ⟨a, c, e1, h2⟩ := sub_head h nd'.2
      refine ⟨y :: a, c, by rw [e1]; rfl, fun x hx => ?_⟩
      rcases List.mem_cons.mp hx with q | q
      · rw [q]; exact fun z => nd'.1 (h.subset z)
      · exact h2 x q
    | cons_cons _ h => exact ⟨[], l, rfl, (fun _ h => nomatch h)⟩
theorem nodup_of_map {α β : Type} {f : α → β} : ∀ {l : List α}, (l.map f).Nodup → l.Nodup
  | [], _ => List.nodup_nil
  | x :: l, h => by
    rw [List.map_cons, List.nodup_cons] at h
    exact List.nodup_cons.mpr ⟨fun z => h.1 (List.mem_map_of_mem z), nodup_of_map h.2⟩
theorem look_sub (b : Base l0 sp) (h : L.Sublist l0) {x y : Int} (q : look L x = some y) : look l0 x = some y := look_of b.nd (h.subset (look_mem q))
theorem rr_count {p : Int} {t : List Int} {rows : List Rw} (h : RR sp (p :: t) kept rows) (hp : sp ≠ none → ((∀ x ∈ p :: t, look kept x = none) ↔ pureB l0 (p :: t) = true)) {Rd : List (List Int)} {n m : Nat} (hl : lenOk l0 Rd n (m + (p :: t).length) sp) : lenOk l0 (Rd ++ [p :: t]) (n + rows.length) m sp := by
  generalize hr : p :: t = r at *
  have hne : 0 < r.length := by rw [← hr]; exact Nat.succ_pos _
  cases h with
  | swaps =>
    have : n + Rd.length + (m + r.length) = l0.length := hl
    show n + (along true r).length + (Rd ++ [r]).length + m = l0.length
    rw [along_len, List.length_append]
    show n + (r.length - 1) + (Rd.length + 1) + m = l0.length
    omega
  | @kept pre post u q c s z _ k1 k2 k3 =>
    have hp' := hp (by simp)
    have hnp : pureB l0 (pre ++ q :: post) = false := by
      cases hz : pureB l0 (pre ++ q :: post) with
      | false => rfl
      | true =>
        have := hp'.mpr hz q (by simp)
        rw [k2] at this; cases this
    have hx : n + (m + (pre ++ q :: post).length) = l0.length + pureC l0 Rd := hl
    show n + _ + m = l0.length + pureC l0 (Rd ++ [pre ++ q :: post])
    unfold pureC at hx ⊢
    rw [List.filter_append, List.length_append, List.length_append, along_len]
    rw [List.filter_cons_of_neg (by rw [hnp]; exact Bool.false_ne_true)]
    simp at hx ⊢
    omega
  | @pure p' s z t' u _ k1 k2 =>
    have hp' := hp (by simp)
    have hpp : pureB l0 (p' :: t') = true := hp'.mp k1
    have hx : n + (m + (p' :: t').length) = l0.length + pureC l0 Rd := hl
    show n + _ + m = l0.length + pureC l0 (Rd ++ [p' :: t'])
    unfold pureC at hx ⊢
    rw [List.filter_append, List.length_append, List.length_append, List.length_cons, along_len]
    rw [List.filter_cons_of_pos hpp]
    simp at hx ⊢
    omega
theorem inv_ring (b : Base l0 sp) {p q : Int} {t : List Int} {rows : List Rw} (I : Inv l0 sp R0 ((p, q) :: L) rs kept) (hf : freeL ((p, q) :: L) = []) (hc : Chain ((p, q) :: L) p (p :: t)) (nd : (p :: t).Nodup) (hR : RR sp (p :: t) kept rows) :
    Inv l0 sp R0 (((p, q) :: L).filter fun e => decide (e.1 ∉ p :: t)) (rs ++ rows) kept := by
  generalize hM : (p, q) :: L = M at *
  have ndM : (keys M).Nodup := (sub_keys I.sub).nodup b.nd
  obtain ⟨vd, hkv, hvk⟩ := perm_of ndM hf
  have hrk : ∀ x ∈ p :: t, x ∈ keys M := fun x hx => by
    obtain ⟨y, h1, _⟩ := chain_next hc x hx
    exact key_mem (look_mem h1)
  have hrk0 : ∀ x ∈ p :: t, x ∈ keys l0 := fun x hx => (sub_keys I.sub).subset (hrk x hx)
  have hsp : ∀ s, sp = some s → s ∉ p :: t := fun s e z => (b.spk s e).1 (hrk0 s z)
  have hspk : ∀ x, x ∈ keys l0 → sp ≠ some x := fun x hx e => (b.spk x e).1 hx
  obtain ⟨e1, e2⟩ := rr_run (st := run rs id) hR hc nd hsp fun x c hx hk => by
    obtain ⟨k1, k2, k3⟩ := I.K x c hk
    exact ⟨k1.trans (I.B x (hrk x hx)).symm, fun z => k3 (hrk c z), hspk c (key_mem k2)⟩
  have est : ∀ x, run (rs ++ rows) id x = run rows (run rs id) x := fun x => by rw [run_app]
  have hst : ∀ x y, x ∈ p :: t → (x, y) ∈ l0 → run (rs ++ rows) id x = y := fun x y hx hy => by
    obtain ⟨z, h1, h2⟩ := e1 x hx
    obtain ⟨z', h3, h4⟩ := chain_next hc x hx
    rw [h1] at h3; cases h3
    rw [est, h2, I.B z (hrk z h4)]
    exact uniq_src b (I.sub.subset (look_mem h1)) hy
  have hlen := len_filtR ndM nd hrk
  have hLl : M.length ≤ l0.length := I.sub.length_le
  -- who leads into the ring from what is left is in it
  have hback : ∀ x y, (x, y) ∈ M → y ∈ p :: t → x ∈ p :: t := fun x y hxy hy => by
    obtain ⟨a, ha, qa⟩ := chain_prev hc y hy
    have := nodup_inj vd (a, y) (look_mem qa) (x, y) hxy rfl
    have : a = x := congrArg Prod.fst this
    rw [← this]; exact ha
  refine ⟨(List.filter_sublist ..).trans I.sub, fun x h1 h2 => ?_, fun x hx => ?_, fun x y hxy hx => ?_, fun x y hxy hy => ?_, fun s c hk => ?_, ?_, fun r hr => ?_, ?_, ?_⟩
  · rw [est, e2 x (fun z => h1 (hrk0 x z)) h2]
    exact I.A x h1 h2
  · obtain ⟨h1, h2⟩ := mem_filtR.mp hx
    rw [est, e2 x h2 (hspk x ((sub_keys I.sub).subset h1))]
    exact I.B x h1
  · by_cases hr : x ∈ p :: t
    · exact hst x y hr hxy
    · rw [est, e2 x hr (hspk x (key_mem hxy))]
      exact I.C x y hxy fun z => hx (mem_filtR.mpr ⟨z, hr⟩)
  · obtain ⟨h1, h2⟩ := List.mem_filter.mp hxy
    have h2 : x ∉ p :: t := of_decide_eq_true h2
    exact mem_filtR.mpr ⟨I.D x y h1 hy, fun z => h2 (hback x y h1 z)⟩
  · obtain ⟨k1, k2, k3⟩ := I.K s c hk
    refine ⟨?_, k2, fun z => k3 (mem_filtR.mp z).1⟩
    rw [est, e2 c (fun z => k3 (hrk c z)) (hspk c (key_mem k2))]
    exact k1
  · have := I.kl
    omega
  · rcases List.mem_append.mp hr with w | w
    · exact I.pl r w
    · exact rr_pl hR hrk0 (fun s c hk => key_mem (I.K s c hk).2.1) r w
  · have := I.rl
    have := rr_len hR
    rw [List.length_append]
    have : 0 < (p :: t).length := Nat.succ_pos _
    omega
  · obtain ⟨done, todo, seen, Rd, Rl, c1, c2, c3, c4, c5, c6, c7, c8, c9⟩ := I.cnt
    have hc0 : Chain l0 p (p :: t) := chain_mono (fun _ _ => look_sub b I.sub) hc
    have hpM : (p, q) ∈ M := by rw [← hM]; exact List.mem_cons_self ..
    have nseen : p ∉ seen := fun z => (c4 p z).2 (key_mem hpM)
    have ndl0 : l0.Nodup := nodup_of_map b.nd
    -- (p, q) stands in todo, behind some that are skipped
    obtain ⟨a, c, ea, ha⟩ := sub_head (l := l0) (L := L) (e := (p, q)) (by rw [hM]; exact I.sub) ndl0
    have hnd : p ∉ keys done := fun z => nseen (c5 p z ⟨t, hc0⟩)
    obtain ⟨a2, et⟩ : ∃ a2, a = done ++ a2 ∧ todo = a2 ++ (p, q) :: c := by
      rw [c1] at ea
      rcases List.append_eq_append_iff.mp ea with ⟨w, h1, h2⟩ | ⟨w, h1, h2⟩
      · exact ⟨w, h1, h2⟩
      · cases w with
        | nil => exact ⟨[], by rw [h1]; simp, by simpa using h2.symm⟩
        | cons d w =>
          have : d = (p, q) := (List.cons.inj h2).1.symm
          subst this
          exact absurd (key_mem (y := q) (by rw [h1]; simp)) hnd
    obtain ⟨ea2, et⟩ := et
    have hskip : ∀ e ∈ a2, e.1 ∈ seen ∨ ¬ Per l0 e.1 := fun e he => by
      by_cases hper : Per l0 e.1
      · obtain ⟨t', ht'⟩ := hper
        rcases c6 e.1 ⟨e.1, t', ht', List.mem_cons_self ..⟩ with w | w
        · exact .inl w
        · exfalso
          obtain ⟨y, hy⟩ := mem_key w
          have hea : e ∈ a := by rw [ea2]; exact List.mem_append_right _ he
          have he0 : e ∈ l0 := by rw [ea]; exact List.mem_append_left _ hea
          have := nodup_inj b.nd (e.1, y) (I.sub.subset hy) e he0 rfl
          exact ha e hea (by rw [hM, ← this]; exact hy)
      · exact .inr hper
    rw [et] at c2
    have c2' := rseq_skips hskip c2
    obtain ⟨R', eR, hR'⟩ : ∃ R', Rl = (p :: t) :: R' ∧ RSeq l0 (seen ++ (p :: t)) c R' := by
      cases c2' with
      | skip h _ =>
        rcases h with w | w
        · exact absurd w nseen
        · exact absurd ⟨t, hc0⟩ w
      | ring h1 h2 h3 =>
        have := chain_uniq h2 hc0
        subst this
        exact ⟨_, rfl, h3⟩
    have hnext0 : ∀ g y, g ∈ p :: t → (g, y) ∈ l0 → y ∈ p :: t := fun g y hg hy => by
      obtain ⟨z, h1, h2⟩ := chain_next hc0 g hg
      rw [uniq_src b hy (look_mem h1)]; exact h2
    refine ⟨done ++ a2 ++ [(p, q)], c, seen ++ (p :: t), Rd ++ [p :: t], R', by rw [ea, ea2]; simp, hR', by rw [c3, eR]; simp, fun x hx => ?_, fun g hg hper => ?_, fun g hg => ?_, fun g y hg hy => ?_, fun g y h1 h2 h3 => ?_, ?_⟩
    · rcases List.mem_append.mp hx with w | w
      · exact ⟨(c4 x w).1, fun z => (c4 x w).2 (mem_filtR.mp z).1⟩
      · exact ⟨hrk0 x w, fun z => (mem_filtR.mp z).2 w⟩
    · unfold keys at hg
      rw [List.map_append, List.map_append] at hg
      rcases List.mem_append.mp hg with w | w
      · rcases List.mem_append.mp w with w | w
        · exact List.mem_append_left _ (c5 g w hper)
        · obtain ⟨e, he, eg⟩ := List.mem_map.mp w
          rcases hskip e he with v | v
          · exact List.mem_append_left _ (by rw [← eg]; exact v)
          · exact absurd (by rw [eg]; exact hper) v
      · have : g = p := by simpa using w
        rw [this]; exact List.mem_append_right _ (List.mem_cons_self ..)
    · rcases c6 g hg with w | w
      · exact .inl (List.mem_append_left _ w)
      · by_cases hr : g ∈ p :: t
        · exact .inl (List.mem_append_right _ hr)
        · exact .inr (mem_filtR.mpr ⟨w, hr⟩)
    · rcases List.mem_append.mp hg with w | w
      · exact List.mem_append_left _ (c7 g y w hy)
      · exact List.mem_append_right _ (hnext0 g y w hy)
    · refine c8 g y h1 (fun z => ?_) fun z => h3 (List.mem_append_left _ z)
      by_cases hr : g ∈ p :: t
      · exact h3 (List.mem_append_right _ hr)
      · exact h2 (mem_filtR.mpr ⟨z, hr⟩)
    · rw [List.length_append]
      refine rr_count hR (fun _ => ⟨fun hk => ?_, fun hp x hx => ?_⟩) (by rw [hlen]; exact c9)
      · unfold pureB
        rw [List.isEmpty_iff, List.filter_eq_nil_iff]
        rintro ⟨g, y⟩ he hz
        rw [Bool.and_eq_true] at hz
        have hy : y ∈ p :: t := of_decide_eq_true hz.1
        have hg : g ∉ p :: t := of_decide_eq_true hz.2
        have hgM : g ∉ keys M := fun w => by
          obtain ⟨y', hy'⟩ := mem_key w
          have := uniq_src b (I.sub.subset hy') he
          subst this
          exact hg (hback g y' hy' hy)
        have hgs : g ∉ seen := fun w => (c4 y (c7 g y w he)).2 (hrk y hy)
        have := c8 g y he hgM hgs
        rw [hk y hy] at this; cases this
      · cases hz : look kept x with
        | none => rfl
        | some c' =>
          exfalso
          obtain ⟨k1, k2, k3⟩ := I.K x c' hz
          unfold pureB at hp
          rw [List.isEmpty_iff, List.filter_eq_nil_iff] at hp
          refine hp (c', x) k2 ?_
          rw [Bool.and_eq_true]
          exact ⟨decide_eq_true hx, decide_eq_true fun w => k3 (hrk c' w)⟩
theorem alg_inv (b : Base l0 sp) : Alg sp (Inv l0 sp R0) where
  free := fun L rs kept f0 fr s I hf hs => inv_free b I hf hs
  chain := fun p q L rs kept I hf => by
    have ndM : (keys ((p, q) :: L)).Nodup := (sub_keys I.sub).nodup b.nd
    obtain ⟨vd, hkv, hvk⟩ := perm_of ndM hf
    obtain ⟨t, h1, h2, h3⟩ := ring_ex ndM vd hvk ((p, q) :: L).length [] p [] rfl trivial (by simp) (fun y hy => by
      have : y = p := by simpa using hy
      rw [this]; exact key_mem (List.mem_cons_self ..)) (by simp; omega)
    refine ⟨t, h1, h2, ?_, fun x hx => ?_⟩
    · have h5 := ph_le h2 h3
      have h4 := I.sub.length_le
      have h6 := b.few
      have h7 : (keys ((p, q) :: L)).length = ((p, q) :: L).length := by simp [keys]
      rw [h7] at h5
      have h8 : (p :: t).length = t.length + 1 := rfl
      rw [h8] at h5
      omega
    · obtain ⟨y, hy⟩ := look_key (h3 x hx)
      rw [hy]; rfl
  ring := fun p q L rs kept t rows I hf hc nd hR => inv_ring b I hf hc nd hR
  small := fun L rs kept I => by
    have h1 := I.sub.length_le
    have h2 := b.few
    have h3 := I.rl
    have h4 := I.kl
    exact ⟨by omega, by omega, by omega⟩
theorem inv_start (hR : RSeq l0 [] l0 R0) : Inv l0 sp R0 l0 [] [] where
  sub := List.Sublist.refl _
  A := fun _ _ _ => rfl
  B := fun _ _ => rfl
  C := fun x y h1 h2 => absurd (key_mem h1) h2
  D := fun _ _ _ h => h
  K := fun s c h => by cases h
  kl := by simp
  pl := fun r h => by cases h
  rl := by simp
  cnt := ⟨[], l0, [], [], R0, rfl, hR, rfl, (fun _ h => nomatch h), (fun _ h => nomatch h), fun g hg => .inr (by
    obtain ⟨p, t, h1, h2⟩ := hg
    obtain ⟨y, h3, _⟩ := chain_next h1 g h2
    exact key_mem (look_mem h3)), (fun _ _ h => nomatch h), fun g s h1 h2 => absurd (key_mem h1) h2, by
    cases sp with
    | none => show 0 + 0 + l0.length = l0.length; omega
    | some v => show 0 + l0.length = l0.length + 0; omega⟩
/-- what stands at the end -/
structure Fin (l0 : List (Int × Int)) (sp : Option Int) (R0 : List (List Int)) (rs : List Rw) : Prop where
  A : ∀ x, x ∉ keys l0 → sp ≠ some x → run rs id x = x
  C : ∀ x y, (x, y) ∈ l0 → run rs id x = y
  pl : ∀ r ∈ rs, Pl' l0 sp r.a ∧ Pl' l0 sp r.b ∧ (sp ≠ none → r.sw = false)
  len : lenOk l0 R0 rs.length 0 sp
  small : rs.length ≤ 20
theorem inv_end (b : Base l0 sp) (I : Inv l0 sp R0 [] rs kept) : Fin l0 sp R0 rs where
  A := I.A
  C := fun x y h => I.C x y h (fun z => nomatch z)
  pl := I.pl
  len := by
    obtain ⟨done, todo, seen, Rd, Rl, c1, c2, c3, c4, c5, c6, c7, c8, c9⟩ := I.cnt
    have hs : ∀ e ∈ todo, e.1 ∈ seen ∨ ¬ Per l0 e.1 := fun e he => by
      by_cases hp : Per l0 e.1
      · obtain ⟨t, ht⟩ := hp
        rcases c6 e.1 ⟨e.1, t, ht, List.mem_cons_self ..⟩ with w | w
        · exact .inl w
        · cases w
      · exact .inr hp
    have : RSeq l0 seen [] Rl := rseq_skips (a := todo) (b := []) hs (by simpa using c2)
    cases this
    rw [c3, List.append_nil]
    exact c9
  small := by
    have := I.rl
    have := b.few
    simp at *
    omega
/-- TOGETHER -/
theorem together_fin (k : Nat) {ms : List (Int × Int)} (g : Good sp ms) (hR : RSeq (left0 ms) [] (left0 ms) R0) : ∃ rs, Fin (left0 ms) sp R0 rs ∧ runD (CC (k + 2)) G W d_together [mvD ms, spD' sp] = some (1, rowsD rs) := by
  have b : Base (left0 ms) sp := ⟨((List.filter_sublist (l := ms)).map _).nodup g.nd, Nat.le_trans (List.length_filter_le _ _) g.few, fun s e => by
    obtain ⟨_, h1, h2⟩ := g.sp s e
    exact ⟨fun z => h1 (((List.filter_sublist (l := ms)).map _).subset z), fun z => h2 (((List.filter_sublist (l := ms)).map _).subset z)⟩⟩
  obtain ⟨rs, kept, hI, hx⟩ := together_ok k g (alg_inv b) (inv_start hR)
  exact ⟨rs, inv_end b hI, hx⟩
end
end K7

set_option Elab.async false
set_option linter.all false
set_option maxRecDepth 100000
set_option maxHeartbeats 4000000
/-! k07, part Q: _law_done. -/
namespace K7
open PySem PySem.Spec PyProof.Rows L2 PV
def tab (ps : List Int) (st : Int → Int) : List (Int × Int) := ps.map fun p => (p, st p)
theorem look_tab {ps : List Int} {st : Int → Int} {x : Int} (h : x ∈ ps) : look (tab ps st) x = some (st x) := by
  unfold look tab
  induction ps with
  | nil => cases h
  | cons p ps ih =>
    rw [List.map_cons, List.find?_cons]
    by_cases e : p = x
    · subst e
      rw [show decide ((p, st p).1 = p) = true from decide_eq_true rfl]; rfl
    · rw [show decide ((p, st p).1 = x) = false from decide_eq_false e]
      exact ih ((List.mem_cons.mp h).resolve_left fun q => e q.symm)
theorem putI_tab {ps : List Int} {st : Int → Int} {a v : Int} (h : a ∈ ps) : putI (tab ps st) a v = tab ps (put1 st a v) := by
  unfold putI
  have hm : (a, st a) ∈ tab ps st := List.mem_map.mpr ⟨a, h, rfl⟩
  rw [if_pos (List.any_eq_true.mpr ⟨(a, st a), hm, decide_eq_true rfl⟩)]
  unfold tab
  rw [List.map_map]
  refine congrArg (fun f => List.map f ps) (funext fun p => ?_)
  show (if p = a then (p, v) else (p, st p)) = (p, put1 st a v p)
  by_cases e : p = a
  · rw [if_pos e]; unfold put1; rw [if_pos e]
  · rw [if_neg e]; unfold put1; rw [if_neg e]
theorem putI_new {ps : List Int} {x : Int} (h : x ∉ ps) : putI (tab ps id) x x = tab (ps ++ [x]) id := by
  unfold putI
  rw [if_neg (fun z => by
    obtain ⟨q, h1, h2⟩ := List.any_eq_true.mp z
    obtain ⟨p, h3, h4⟩ := List.mem_map.mp h1
    subst h4
    have : p = x := of_decide_eq_true h2
    exact h (this ▸ h3))]
  unfold tab
  rw [List.map_append]; rfl
theorem tab_len (ps : List Int) (st : Int → Int) : (tab ps st).length = ps.length := List.length_map ..
theorem word_eq (sw : Bool) : eqD (.str (word sw)) (.str "swap") = some sw := by cases sw <;> decide +kernel
abbrev envD (rs : List Rw) (ps : List Int) (H : List (Int × Int)) (x3 x4 x5 x6 x7 x8 : Option (Nat × D)) : PV.Env := [some (0, rowsD rs), some (0, inL ps), some (1, dicI H), x3, x4, x5, x6, x7, x8]
theorem seti2 (k : Nat) {rs : List Rw} {ps : List Int} {H : List (Int × Int)} {x3 x4 x5 x6 x7 x8 : Option (Nat × D)} {i j : Nat} {a v : Int} (hi : (envD rs ps H x3 x4 x5 x6 x7 x8)[i]? = some (some (0, .int a))) (hj : (envD rs ps H x3 x4 x5 x6 x7 x8)[j]? = some (some (0, .int v))) (hl : H.length < cap) :
    PV.exec (CC k) G W (.seti 2 (.var i) (.var j)) (envD rs ps H x3 x4 x5 x6 x7 x8) = some (.nx (envD rs ps (putI H a v) x3 x4 x5 x6 x7 x8)) := by
  refine ex_seti (k := 0) (d := .int v) (k2 := 0) (y := .int a) (d0 := dicI H) (d' := dicI (putI H a v)) (evS_ns ?_ rfl) (evS_ns ?_ rfl) rfl ?_
  · simp only [ev, exp_get (m := fv (.var j)) (i := 0) hj (.inl rfl)]
  · simp only [ev, exp_get (m := fv (.var i)) (i := 0) hi (.inl rfl)]
  · show (if (H.map kv).length < cap then some (D.dic (putD (H.map kv) (Sum.inl a) (.int v))) else none) = _
    rw [if_pos (by rw [List.length_map]; exact hl), put_kv]; rfl
theorem done_row (k : Nat) {rs : List Rw} {ps : List Int} {st : Int → Int} {x3 x7 x8 : Option (Nat × D)} (r : Rw) (ha : r.a ∈ ps) (hb : r.b ∈ ps) (hl : ps.length ≤ 100) :
    ∃ y7 y8, PV.exec (CC k) G W (.cons (.par 7 8 (.idx (.var 2) (.var 5)) (.idx (.var 2) (.var 6))) (.cons (.seti 2 (.var 5) (.var 8)) (.cons (.ite (.cmp .eq (.var 4) (.str "swap")) (.cons (.seti 2 (.var 6) (.var 7)) .nil) .nil) .nil))) (envD rs ps (tab ps st) x3 (some (0, .str (word r.sw))) (some (0, .int r.a)) (some (0, .int r.b)) x7 x8) =
      some (.nx (envD rs ps (tab ps (step1 st r)) x3 (some (0, .str (word r.sw))) (some (0, .int r.a)) (some (0, .int r.b)) y7 y8)) := by
  refine ⟨some (0, .int (st r.a)), some (0, .int (st r.b)), ?_⟩
  have hcap : ∀ st, (tab ps st).length < cap := fun st => by rw [tab_len]; show _ < 100000; omega
  have p1 : PV.exec (CC k) G W (.par 7 8 (.idx (.var 2) (.var 5)) (.idx (.var 2) (.var 6))) (envD rs ps (tab ps st) x3 (some (0, .str (word r.sw))) (some (0, .int r.a)) (some (0, .int r.b)) x7 x8) = some (.nx (envD rs ps (tab ps st) x3 (some (0, .str (word r.sw))) (some (0, .int r.a)) (some (0, .int r.b)) (some (0, .int (st r.a))) (some (0, .int (st r.b))))) := by
    refine ex_par (k := 0) (d := .int (st r.a)) (k2 := 0) (d2 := .int (st r.b)) (evS_ns ?_ rfl) (evS_ns ?_ rfl)
    · have g2 := exp_get (m := fv (.idx (.var 2) (.var 5))) (i := 0) (j := 2) (ρ := envD rs ps (tab ps st) x3 (some (0, .str (word r.sw))) (some (0, .int r.a)) (some (0, .int r.b)) x7 x8) rfl (.inr (by decide))
      have g5 := exp_get (m := fv (.idx (.var 2) (.var 5))) (i := 0) (j := 5) (ρ := envD rs ps (tab ps st) x3 (some (0, .str (word r.sw))) (some (0, .int r.a)) (some (0, .int r.b)) x7 x8) rfl (.inl rfl)
      simp only [ev, g2, g5, idx_dic, look_tab ha]; rfl
    · have g2 := exp_get (m := fv (.idx (.var 2) (.var 6))) (i := 0) (j := 2) (ρ := envD rs ps (tab ps st) x3 (some (0, .str (word r.sw))) (some (0, .int r.a)) (some (0, .int r.b)) x7 x8) rfl (.inr (by decide))
      have g6 := exp_get (m := fv (.idx (.var 2) (.var 6))) (i := 0) (j := 6) (ρ := envD rs ps (tab ps st) x3 (some (0, .str (word r.sw))) (some (0, .int r.a)) (some (0, .int r.b)) x7 x8) rfl (.inl rfl)
      simp only [ev, g2, g6, idx_dic, look_tab hb]; rfl
  refine (ex_nx p1).trans ?_
  refine (ex_nx (seti2 k (i := 5) (j := 8) rfl rfl (hcap st))).trans ?_
  rw [putI_tab ha]
  have hif : evB (CC k) G (.cmp .eq (.var 4) (.str "swap")) (envD rs ps (tab ps (put1 st r.a (st r.b))) x3 (some (0, .str (word r.sw))) (some (0, .int r.a)) (some (0, .int r.b)) (some (0, .int (st r.a))) (some (0, .int (st r.b)))) = some r.sw := by
    refine evB_of (k := 0) ?_
    have g4 := exp_get (m := fv (.cmp .eq (.var 4) (.str "swap"))) (i := 0) (j := 4) (ρ := envD rs ps (tab ps (put1 st r.a (st r.b))) x3 (some (0, .str (word r.sw))) (some (0, .int r.a)) (some (0, .int r.b)) (some (0, .int (st r.a))) (some (0, .int (st r.b)))) rfl (.inl rfl)
    simp only [ev, g4, cmpD, word_eq]; rfl
  cases hsw : r.sw with
  | false =>
    rw [hsw] at hif
    refine (ex_nx ((ex_false hif).trans rfl)).trans ?_
    rw [show step1 st r = put1 st r.a (st r.b) by unfold step1; rw [hsw]; rfl]
    rfl
  | true =>
    rw [hsw] at hif
    have p2 := seti2 k (rs := rs) (ps := ps) (H := tab ps (put1 st r.a (st r.b))) (x3 := x3) (x4 := some (0, .str (word true))) (x5 := some (0, .int r.a)) (x6 := some (0, .int r.b)) (x7 := some (0, .int (st r.a))) (x8 := some (0, .int (st r.b))) (i := 6) (j := 7) rfl rfl (hcap _)
    refine (ex_nx ((ex_true hif).trans ((ex_nx p2).trans rfl))).trans ?_
    rw [putI_tab hb, show step1 st r = put1 (put1 st r.a (st r.b)) r.b (st r.a) by unfold step1; rw [hsw]; rfl]
    rfl
theorem done_ok (k : Nat) {rs : List Rw} {ps : List Int} (nd : ps.Nodup) (hl : ps.length ≤ 100) (hr : ∀ r ∈ rs, r.a ∈ ps ∧ r.b ∈ ps) : CC (k + 1) "_law_done" [rowsD rs, inL ps] [] [] = some (1, dicI (tab ps (run rs id))) := by
  show runD (CC k) G W d_law_done [rowsD rs, inL ps] = _
  unfold runD
  have : PV.exec (CC k) G W d_law_done.body (env0 d_law_done.N [rowsD rs, inL ps]) = some (.rt 1 (dicI (tab ps (run rs id)))) := by
    refine (ex_nx (ρ' := envD rs ps [] none none none none none none) rfl).trans ?_
    have f1 : ∃ x3, PV.exec (CC k) G W (.for_ (.one 3) (.itr (.var 1)) (.cons (.seti 2 (.var 3) (.var 3)) .nil)) (envD rs ps [] none none none none none none) = some (.nx (envD rs ps (tab ps id) x3 none none none none none)) := by
      rw [ex_for (ds := ps.map D.int) rfl rfl]
      refine for_rule (tg := .one 3) (f := fun r => PV.exec (CC k) G W (.cons (.seti 2 (.var 3) (.var 3)) .nil) r) (P := fun o => ∃ x3, o = some (.nx (envD rs ps (tab ps id) x3 none none none none none))) (fun ds ρ => ∃ p1 p2 x3, ps = p1 ++ p2 ∧ ds = p2.map D.int ∧ ρ = envD rs ps (tab p1 id) x3 none none none none none) ?_ ?_ _ _ ⟨[], ps, none, rfl, rfl, rfl⟩
      · rintro ρ ⟨p1, p2, x3, e1, e2, rfl⟩
        cases p2 with
        | nil => rw [List.append_nil] at e1; exact ⟨x3, by rw [e1]⟩
        | cons x p2 => cases e2
      · rintro d ds ρ ⟨p1, p2, x3, e1, e2, rfl⟩
        cases p2 with
        | nil => cases e2
        | cons x p2 =>
          cases e2
          have hx : x ∉ p1 := fun z => by
            rw [e1, List.nodup_append] at nd
            exact nd.2.2 x z x (by simp) rfl
          have hlen : (tab p1 id).length < cap := by
            rw [tab_len]
            have := congrArg List.length e1
            rw [List.length_append] at this
            show _ < 100000
            omega
          have s1 := seti2 k (rs := rs) (ps := ps) (H := tab p1 id) (x3 := some (0, .int x)) (x4 := none) (x5 := none) (x6 := none) (x7 := none) (x8 := none) (i := 3) (j := 3) rfl rfl hlen
          rw [putI_new hx] at s1
          exact ⟨_, rfl, .inl ⟨_, (ex_nx s1).trans rfl, p1 ++ [x], p2, _, by rw [e1]; simp, rfl, rfl⟩⟩
    obtain ⟨x3, f1⟩ := f1
    refine (ex_nx f1).trans ?_
    have f2 : ∃ x4 x5 x6 x7 x8, PV.exec (CC k) G W (.for_ (.many [4, 5, 6]) (.itr (.var 0)) (.cons (.par 7 8 (.idx (.var 2) (.var 5)) (.idx (.var 2) (.var 6))) (.cons (.seti 2 (.var 5) (.var 8)) (.cons (.ite (.cmp .eq (.var 4) (.str "swap")) (.cons (.seti 2 (.var 6) (.var 7)) .nil) .nil) .nil)))) (envD rs ps (tab ps id) x3 none none none none none) = some (.nx (envD rs ps (tab ps (run rs id)) x3 x4 x5 x6 x7 x8)) := by
      have hfz : freeze (fv (.itr (.var 0))) 0 (envD rs ps (tab ps id) x3 none none none none none) = envD rs ps (tab ps id) x3 none none none none none := by
        cases x3 <;> rfl
      rw [ex_for (ds := rs.map rwD) rfl rfl, hfz]
      refine for_rule (tg := .many [4, 5, 6]) (f := fun r => PV.exec (CC k) G W _ r) (P := fun o => ∃ x4 x5 x6 x7 x8, o = some (.nx (envD rs ps (tab ps (run rs id)) x3 x4 x5 x6 x7 x8))) (fun ds ρ => ∃ r1 r2 x4 x5 x6 x7 x8, rs = r1 ++ r2 ∧ ds = r2.map rwD ∧ ρ = envD rs ps (tab ps (run r1 id)) x3 x4 x5 x6 x7 x8) ?_ ?_ _ _ ⟨[], rs, none, none, none, none, none, rfl, rfl, rfl⟩
      · rintro ρ ⟨r1, r2, x4, x5, x6, x7, x8, e1, e2, rfl⟩
        cases r2 with
        | nil => rw [List.append_nil] at e1; exact ⟨x4, x5, x6, x7, x8, by rw [e1]⟩
        | cons x p2 => cases e2
      · rintro d ds ρ ⟨r1, r2, x4, x5, x6, x7, x8, e1, e2, rfl⟩
        cases r2 with
        | nil => cases e2
        | cons r r2 =>
          cases e2
          obtain ⟨h1, h2⟩ := hr r (by rw [e1]; simp)
          obtain ⟨y7, y8, hx⟩ := done_row k (rs := rs) (ps := ps) (st := run r1 id) (x3 := x3) (x7 := x7) (x8 := x8) r h1 h2 hl
          exact ⟨_, rfl, .inl ⟨_, hx, r1 ++ [r], r2, some (0, .str (word r.sw)), some (0, .int r.a), some (0, .int r.b), y7, y8, by rw [e1]; simp, rfl, by rw [run_app]; rfl⟩⟩
    obtain ⟨x4, x5, x6, x7, x8, f2⟩ := f2
    refine (ex_nx f2).trans ?_
    rfl
  rw [this]
end K7

set_option Elab.async false
set_option linter.all false
set_option maxRecDepth 100000
set_option maxHeartbeats 4000000
/-! k07, part R: _law_right. -/
namespace K7
open PySem PySem.Spec PyProof.Rows L2 PV
theorem all_true {α : Type} (xs : List α) : bltD .all (.lst (xs.map fun _ => .bl true)) = some (0, .bl true) := by
  show (bools (xs.map fun _ => .bl true)).map (fun bs => (0, D.bl (bs.all id))) = _
  rw [bools_map (fun _ => true)]
  show some (0, D.bl ((xs.map fun _ => true).all id)) = _
  rw [List.all_map, show xs.all (id ∘ fun _ => true) = true from List.all_eq_true.mpr fun _ _ => rfl]
/-- the places and the spare one -/
def allP (ps : List Int) : Option Int → List Int
  | none => ps
  | some s => ps ++ [s]
theorem some_ev {C : Str → List D → List Str → List D → Option (Nat × D)} {ρ : Ro} {i j : Nat} {ps : List Int} {sp : Option Int} (h1 : ρ[i]? = some (some (inL ps))) (h2 : ρ[j]? = some (some (spD' sp))) (hl : ps.length ≤ 100) : ev C G (.bin .add (.var i) (.ife (.cmp .isnot (.var j) .non) (.lst (.cons (.var j) .nil)) (.lst .nil))) ρ = some (1, inL (allP ps sp)) := by
  cases sp with
  | none =>
    have e : ev C G (.ife (.cmp .isnot (.var j) .non) (.lst (.cons (.var j) .nil)) (.lst .nil)) ρ = some (1, inL []) := by
      simp only [ev, evs, h2, spD', cmpD, PV.isNon]
      rfl
    rw [ev, e]
    simp only [ev, h1, binD]
    have := add_in (xs := ps) (ys := []) (by show _ ≤ 100000; simp; omega)
    rw [List.append_nil] at this
    exact this
  | some s =>
    have e : ev C G (.ife (.cmp .isnot (.var j) .non) (.lst (.cons (.var j) .nil)) (.lst .nil)) ρ = some (1, inL [s]) := by
      simp only [ev, evs, h2, spD', cmpD, PV.isNon]
      rfl
    rw [ev, e]
    simp only [ev, h1, binD]
    exact add_in (by show _ ≤ 100000; simp; omega)
structure Rgt (ms : List (Int × Int)) (ps : List Int) (sp : Option Int) (rs : List Rw) : Prop where
  nd : (allP ps sp).Nodup
  few : (allP ps sp).length ≤ 100
  rows : ∀ r ∈ rs, (r.a ∈ allP ps sp ∧ r.b ∈ allP ps sp) ∧ (sp ≠ none → r.sw = false)
  goal : ∀ p ∈ ms, p.1 ∈ allP ps sp ∧ run rs id p.1 = p.2
  stay : ∀ x ∈ ps, x ∉ ms.map (·.1) → run rs id x = x
theorem allP_sub {ps : List Int} {sp : Option Int} {x : Int} (h : x ∈ ps) : x ∈ allP ps sp := by
  cases sp with
  | none => exact h
  | some s => exact List.mem_append_left _ h
abbrev envG (ms : List (Int × Int)) (ps : List Int) (sp : Option Int) (rs : List Rw) (x4 x5 x6 : Option (Nat × D)) : PV.Env := [some (0, mvD ms), some (0, inL ps), some (0, spD' sp), some (0, rowsD rs), x4, x5, x6, none, none, none, none, none]
theorem right_ok (k : Nat) {ms : List (Int × Int)} {ps : List Int} {sp : Option Int} {rs : List Rw} (h : Rgt ms ps sp rs) : CC (k + 2) "_law_right" [mvD ms, inL ps, spD' sp, rowsD rs] [] [] = some (0, .bl true) := by
  show runD (CC (k + 1)) G W d_law_right [mvD ms, inL ps, spD' sp, rowsD rs] = _
  unfold runD
  have hps : ps.length ≤ 100 := by
    have := h.few
    cases sp with
    | none => exact this
    | some s => unfold allP at this; rw [List.length_append] at this; omega
  have : PV.exec (CC (k + 1)) G W d_law_right.body (env0 d_law_right.N [mvD ms, inL ps, spD' sp, rowsD rs]) = some (.rt 0 (.bl true)) := by
    show PV.exec (CC (k + 1)) G W b_law_right (envG ms ps sp rs none none none) = _
    have s4 := some_ev (C := CC (k + 1)) (ρ := [some (mvD ms), some (inL ps), some (spD' sp), some (rowsD rs), none, none, none, none, none, none, none, none]) (i := 1) (j := 2) (ps := ps) (sp := sp) rfl rfl hps
    refine (ex_nx (ex_set (i := 4) (evS_ns s4 (nosh_in _)))).trans ?_
    show PV.exec (CC (k + 1)) G W _ (envG ms ps sp rs (some (1, inL (allP ps sp))) none none) = _
    -- the rows' form
    have b2 : evB (CC (k + 1)) G (.or_ (.nt (.blt .islist (.var 3))) (.nt (.blt .all (.lc [9] (.one 9) (.itr (.var 3)) .yes (.and_ (.cmp .isin (.idx (.var 9) (.int 0)) (.tup (.cons (.str "move") (.cons (.str "swap") .nil)))) (.cmp .eq (.blt .len (.var 9)) (.int 3))))))) (envG ms ps sp rs (some (1, inL (allP ps sp))) none none) = some false := by
      refine evB_of (k := 0) ?_
      show ev _ G _ [some (mvD ms), some (inL ps), some (spD' sp), some (rowsD rs), none, none, none, none, none, none, none, none] = _
      have e0 : ev (CC (k + 1)) G (.nt (.blt .islist (.var 3))) [some (mvD ms), some (inL ps), some (spD' sp), some (rowsD rs), none, none, none, none, none, none, none, none] = some (0, .bl false) := rfl
      have e1 : ev (CC (k + 1)) G (.lc [9] (.one 9) (.itr (.var 3)) .yes (.and_ (.cmp .isin (.idx (.var 9) (.int 0)) (.tup (.cons (.str "move") (.cons (.str "swap") .nil)))) (.cmp .eq (.blt .len (.var 9)) (.int 3)))) [some (mvD ms), some (inL ps), some (spD' sp), some (rowsD rs), none, none, none, none, none, none, none, none] = some (1, .lst (rs.map fun _ => .bl true)) := by
        refine ev_lc (ds := rs.map rwD) rfl (lc_all (tg := .one 9) rwD (fun _ => .bl true) fun r _ => ⟨_, rfl, 0, ?_⟩)
        show ev (CC (k + 1)) G (.and_ (.cmp .isin (.idx (.var 9) (.int 0)) (.tup (.cons (.str "move") (.cons (.str "swap") .nil)))) (.cmp .eq (.blt .len (.var 9)) (.int 3))) [some (mvD ms), some (inL ps), some (spD' sp), some (rowsD rs), none, none, none, none, none, some (rwD r), none, none] = _
        have a1 : ev (CC (k + 1)) G (.cmp .isin (.idx (.var 9) (.int 0)) (.tup (.cons (.str "move") (.cons (.str "swap") .nil)))) [some (mvD ms), some (inL ps), some (spD' sp), some (rowsD rs), none, none, none, none, none, some (rwD r), none, none] = some (0, .bl true) := by
          show (inD (.str (word r.sw)) (.tup [.str "move", .str "swap"])).map (fun c => (0, D.bl c)) = _
          rw [show inD (.str (word r.sw)) (.tup [.str "move", .str "swap"]) = some true by cases r.sw <;> rfl]; rfl
        have a2 : ev (CC (k + 1)) G (.cmp .eq (.blt .len (.var 9)) (.int 3)) [some (mvD ms), some (inL ps), some (spD' sp), some (rowsD rs), none, none, none, none, none, some (rwD r), none, none] = some (0, .bl true) := by
          show (eqD (.int 3) (.int 3)).map (fun c => (0, D.bl c)) = _
          rw [eqd_int]; rfl
        rw [ev, a1]
        dsimp only
        rw [a2]
      have e2 : ev (CC (k + 1)) G (.nt (.blt .all (.lc [9] (.one 9) (.itr (.var 3)) .yes (.and_ (.cmp .isin (.idx (.var 9) (.int 0)) (.tup (.cons (.str "move") (.cons (.str "swap") .nil)))) (.cmp .eq (.blt .len (.var 9)) (.int 3)))))) [some (mvD ms), some (inL ps), some (spD' sp), some (rowsD rs), none, none, none, none, none, none, none, none] = some (0, .bl false) := by
        rw [ev, ev, e1]
        dsimp only
        rw [all_true]; rfl
      rw [ev, e0]
      dsimp only
      rw [e2]
    refine (ex_nx ((ex_false b2).trans rfl)).trans ?_
    -- no exchange where a spare place is told
    have b3 : evB (CC (k + 1)) G (.and_ (.cmp .isnot (.var 2) .non) (.cmp .isin (.str "swap") (.lc [9] (.one 9) (.itr (.var 3)) .yes (.idx (.var 9) (.int 0))))) (envG ms ps sp rs (some (1, inL (allP ps sp))) none none) = some false := by
      refine evB_of (k := 0) ?_
      cases sp with
      | none => rfl
      | some s =>
        show ev _ G _ [some (mvD ms), some (inL ps), some (.int s), some (rowsD rs), none, none, none, none, none, none, none, none] = _
        have e0 : ev (CC (k + 1)) G (.cmp .isnot (.var 2) .non) [some (mvD ms), some (inL ps), some (.int s), some (rowsD rs), none, none, none, none, none, none, none, none] = some (0, .bl true) := rfl
        have e1 : ev (CC (k + 1)) G (.lc [9] (.one 9) (.itr (.var 3)) .yes (.idx (.var 9) (.int 0))) [some (mvD ms), some (inL ps), some (.int s), some (rowsD rs), none, none, none, none, none, none, none, none] = some (1, .lst (rs.map fun r => .str (word r.sw))) :=
          ev_lc (ds := rs.map rwD) rfl (lc_all (tg := .one 9) rwD (fun r => .str (word r.sw)) fun r _ => ⟨_, rfl, 0, rfl⟩)
        have e2 : inD (.str "swap") (.lst (rs.map fun r => .str (word r.sw))) = some false := by
          show (if flat (.str "swap") = true ∧ (rs.map fun r => D.str (word r.sw)).all flat = true then some ((rs.map fun r => D.str (word r.sw)).any fun y => eqF y (.str "swap")) else none) = _
          rw [if_pos ⟨rfl, by rw [List.all_map]; exact List.all_eq_true.mpr fun _ _ => rfl⟩]
          congr 1
          rw [List.any_map, List.any_eq_false]
          intro r hr
          have := (h.rows r hr).2 (by simp)
          show ¬ eqF (.str (word r.sw)) (.str "swap") = true
          rw [this]
          decide
        rw [ev, e0]
        dsimp only
        rw [ev, e1]
        show (match (inD (.str "swap") (.lst (rs.map fun r => .str (word r.sw)))).map (fun c => (0, D.bl c)) with
          | some (_, .bl c) => some (0, D.bl c)
          | _ => none) = _
        rw [e2]; rfl
    refine (ex_nx ((ex_false b3).trans rfl)).trans ?_
    -- what the rows come to
    have hd : ev (CC (k + 1)) G (.call "_law_done" (.cons (.var 3) (.cons (.var 4) .nil)) [] .nil) [some (mvD ms), some (inL ps), some (spD' sp), some (rowsD rs), some (inL (allP ps sp)), none, none, none, none, none, none, none] = some (1, dicI (tab (allP ps sp) (run rs id))) := by
      have := done_ok k h.nd h.few fun r hr => (h.rows r hr).1
      exact this
    refine (ex_nx (ex_set (i := 5) (evS_ns hd (nosh_dic _)))).trans ?_
    show PV.exec (CC (k + 1)) G W _ (envG ms ps sp rs (some (1, inL (allP ps sp))) (some (1, dicI (tab (allP ps sp) (run rs id)))) none) = _
    have h6 : ev (CC (k + 1)) G (.lc [7] (.one 7) (.itr (.var 0)) .yes (.idx (.var 7) (.int 0))) [some (mvD ms), some (inL ps), some (spD' sp), some (rowsD rs), none, none, none, none, none, none, none, none] = some (1, inL (ms.map (·.1))) := (lc7i (C := CC (k + 1)) (ms := ms) rfl rfl).1
    refine (ex_nx (ex_set (i := 6) (evS_ns h6 (nosh_in _)))).trans ?_
    show PV.exec (CC (k + 1)) G W _ (envG ms ps sp rs (some (1, inL (allP ps sp))) (some (1, dicI (tab (allP ps sp) (run rs id)))) (some (1, inL (ms.map (·.1))))) = _
    have b6 : evB (CC (k + 1)) G (.nt (.blt .all (.lc [10, 11] (.many [10, 11]) (.itr (.var 0)) .yes (.cmp .eq (.idx (.var 5) (.var 10)) (.var 11))))) (envG ms ps sp rs (some (1, inL (allP ps sp))) (some (1, dicI (tab (allP ps sp) (run rs id)))) (some (1, inL (ms.map (·.1))))) = some false := by
      refine evB_of (k := 0) ?_
      show ev _ G _ [some (mvD ms), some (inL ps), some (spD' sp), some (rowsD rs), none, some (dicI (tab (allP ps sp) (run rs id))), none, none, none, none, none, none] = _
      have e1 : ev (CC (k + 1)) G (.lc [10, 11] (.many [10, 11]) (.itr (.var 0)) .yes (.cmp .eq (.idx (.var 5) (.var 10)) (.var 11))) [some (mvD ms), some (inL ps), some (spD' sp), some (rowsD rs), none, some (dicI (tab (allP ps sp) (run rs id))), none, none, none, none, none, none] = some (1, .lst (ms.map fun _ => .bl true)) := by
        refine ev_lc (ds := ms.map pr) rfl (lc_all (tg := .many [10, 11]) pr (fun _ => .bl true) fun p hp => ⟨_, rfl, 0, ?_⟩)
        obtain ⟨g1, g2⟩ := h.goal p hp
        show (match (idxD (dicI (tab (allP ps sp) (run rs id))) (.int p.1)).map (fun d => (0, d)), some (0, D.int p.2) with
          | some (_, x), some (_, y) => (cmpD .eq x y).map fun c => (0, D.bl c)
          | _, _ => none) = _
        rw [idx_dic, look_tab g1, g2]
        show (eqD (.int p.2) (.int p.2)).map (fun c => (0, D.bl c)) = _
        rw [eqd_int]; simp
      rw [ev, ev, e1]
      dsimp only
      rw [all_true]; rfl
    refine (ex_nx ((ex_false b6).trans rfl)).trans ?_
    refine ex_rt (ex_ret (ρ' := _) (evS_ns ?_ rfl))
    show ev _ G _ [some (mvD ms), some (inL ps), some (spD' sp), some (rowsD rs), none, some (dicI (tab (allP ps sp) (run rs id))), some (inL (ms.map (·.1))), none, none, none, none, none] = _
    have e1 : ev (CC (k + 1)) G (.lc [8] (.one 8) (.itr (.var 1)) (.cmp .notin (.var 8) (.var 6)) (.cmp .eq (.idx (.var 5) (.var 8)) (.var 8))) [some (mvD ms), some (inL ps), some (spD' sp), some (rowsD rs), none, some (dicI (tab (allP ps sp) (run rs id))), some (inL (ms.map (·.1))), none, none, none, none, none] = some (1, .lst ((ps.filter fun x => decide (x ∉ ms.map (·.1))).map fun _ => .bl true)) := by
      refine ev_lc (ds := ps.map D.int) rfl (lc_rule (tg := .one 8) D.int (fun x => decide (x ∉ ms.map (·.1))) (fun _ => .bl true) fun x hx => ⟨_, rfl, ⟨0, ?_⟩, fun hc => ⟨0, ?_⟩⟩)
      · show (cmpD .notin (.int x) (inL (ms.map (·.1)))).map (fun c => (0, D.bl c)) = _
        simp only [cmpD, ind_in]
        simp
      · show (match (idxD (dicI (tab (allP ps sp) (run rs id))) (.int x)).map (fun d => (0, d)), some (0, D.int x) with
          | some (_, x), some (_, y) => (cmpD .eq x y).map fun c => (0, D.bl c)
          | _, _ => none) = _
        rw [idx_dic, look_tab (allP_sub hx), h.stay x hx (of_decide_eq_true hc)]
        show (eqD (.int x) (.int x)).map (fun c => (0, D.bl c)) = _
        rw [eqd_int]; simp
    rw [ev, e1]
    dsimp only
    rw [all_true]
  rw [this]
/-- what together comes to is right -/
theorem right_of {ms : List (Int × Int)} {ps : List Int} {sp : Option Int} {R0 : List (List Int)} {rs : List Rw} (F : Fin (left0 ms) sp R0 rs) (nd : (allP ps sp).Nodup) (few : (allP ps sp).length ≤ 100) (g : (ms.map (·.1)).Nodup) (hin : ∀ p ∈ ms, p.1 ∈ ps ∧ p.2 ∈ ps) : Rgt ms ps sp rs where
  nd := nd
  few := few
  rows := fun r hr => by
    have key : ∀ x, Pl' (left0 ms) sp x → x ∈ allP ps sp := fun x hx => by
      rcases hx with z | z | z
      · obtain ⟨y, hy⟩ := mem_key z
        exact allP_sub (hin _ (List.mem_filter.mp hy).1).1
      · obtain ⟨y, hy⟩ := mem_val z
        exact allP_sub (hin _ (List.mem_filter.mp hy).1).2
      · subst z
        exact List.mem_append_right _ (by simp)
    obtain ⟨h1, h2, h3⟩ := F.pl r hr
    exact ⟨⟨key _ h1, key _ h2⟩, h3⟩
  goal := fun p hp => by
    refine ⟨allP_sub (hin p hp).1, ?_⟩
    by_cases e : p.1 = p.2
    · rw [← e]
      refine F.A p.1 (fun z => ?_) fun z => ?_
      · obtain ⟨y, hy⟩ := mem_key z
        obtain ⟨h1, h2⟩ := List.mem_filter.mp hy
        have := nodup_inj g (p.1, y) h1 p hp rfl
        have h2 : p.1 ≠ y := of_decide_eq_true h2
        exact h2 (by rw [e]; exact (congrArg Prod.snd this).symm)
      · subst z
        unfold allP at nd
        rw [List.nodup_append] at nd
        exact nd.2.2 p.1 (hin p hp).1 p.1 (by simp) rfl
    · exact F.C p.1 p.2 (List.mem_filter.mpr ⟨hp, decide_eq_true e⟩)
  stay := fun x hx hn => by
    refine F.A x (fun z => ?_) fun z => ?_
    · obtain ⟨y, hy⟩ := mem_key z
      exact hn (List.mem_map_of_mem (f := (·.1)) (List.mem_filter.mp hy).1)
    · subst z
      unfold allP at nd
      rw [List.nodup_append] at nd
      exact nd.2.2 x hx x (by simp) rfl
end K7

set_option Elab.async false
set_option linter.all false
set_option maxRecDepth 100000
set_option maxHeartbeats 4000000
/-! k07, part S: _law_rings. -/
namespace K7
open PySem PySem.Spec PyProof.Rows L2 PV
theorem chain_suf {L : List (Int × Int)} {p : Int} : ∀ (a : List Int) {x : Int} {b : List Int}, Chain L p (a ++ x :: b) → Chain L p (x :: b)
  | [], _, _, h => h
  | [y], _, _, h => h.2.2
  | y :: z :: a, _, _, h => chain_suf (z :: a) h.2.2
theorem chain_nodup {L : List (Int × Int)} {p : Int} : ∀ {r : List Int}, Chain L p r → r.Nodup
  | [], h => h.elim
  | [z], _ => by simp
  | x :: y :: t, h => by
    refine List.nodup_cons.mpr ⟨fun hm => ?_, chain_nodup h.2.2⟩
    obtain ⟨a, b, e⟩ := List.append_of_mem hm
    have h2 : Chain L p (x :: b) := chain_suf (x :: a) (by rw [List.cons_append, ← e]; exact h)
    have := chain_uniq h h2
    have h3 := congrArg List.length (e.symm.trans this)
    simp at h3
    omega
section
variable {ms l0 : List (Int × Int)} (k : Nat)
def whlC : Exp := .and_ (.cmp .notin (.idx (.var 7) (.neg (.int 1))) (.slc (.var 7) .nil (.itr (.neg (.int 1))))) (.cmp .isin (.idx (.var 7) (.neg (.int 1))) (.lc [8] (.one 8) (.itr (.var 1)) .yes (.idx (.var 8) (.int 0))))
def nxtE : Exp := .idx (.lc [8] (.one 8) (.itr (.var 1)) (.cmp .eq (.idx (.var 8) (.int 0)) (.idx (.var 7) (.neg (.int 1)))) (.idx (.var 8) (.int 1))) (.int 0)
abbrev envW (ms l0 : List (Int × Int)) (seen : List Int) (nr np g s : Int) (x7 x9 : Option (Nat × D)) : PV.Env := [some (0, mvD ms), some (0, mvD l0), some (1, inL seen), some (0, .int nr), some (0, .int np), some (0, .int g), some (0, .int s), x7, none, x9]
theorem cond_ev {seen u : List Int} {nr np g s x : Int} {x9 : Option (Nat × D)} : evB (CC k) G whlC (envW ms l0 seen nr np g s (some (1, inL (u ++ [x]))) x9) = some (decide (x ∉ u) && decide (x ∈ keys l0)) := by
  have gx : ∃ y9, expose (fv whlC) 0 (envW ms l0 seen nr np g s (some (1, inL (u ++ [x]))) x9) = [some (mvD ms), some (mvD l0), none, some (.int nr), some (.int np), some (.int g), some (.int s), some (inL (u ++ [x])), none, y9] := by
    cases x9 with
    | none => exact ⟨_, rfl⟩
    | some v => exact ⟨_, rfl⟩
  obtain ⟨y9, gx⟩ := gx
  refine evB_of (k := 0) ?_
  rw [gx]
  have i0 : idxD (inL (u ++ [x])) (.int (-1)) = some (.int x) := ati_last
  have hs : slcD (inL (u ++ [x])) none (some (-1)) = some (1, inL u) := by rw [slc_init, List.dropLast_concat]
  have e1 : ev (CC k) G (.cmp .notin (.idx (.var 7) (.neg (.int 1))) (.slc (.var 7) .nil (.itr (.neg (.int 1))))) [some (mvD ms), some (mvD l0), none, some (.int nr), some (.int np), some (.int g), some (.int s), some (inL (u ++ [x])), none, y9] = some (0, .bl (decide (x ∉ u))) := by
    simp only [ev, evO, List.getElem?_cons_zero, List.getElem?_cons_succ, i0, hs, cmpD, Option.map_some, ind_in]
    simp
  have e2 : ev (CC k) G (.lc [8] (.one 8) (.itr (.var 1)) .yes (.idx (.var 8) (.int 0))) [some (mvD ms), some (mvD l0), none, some (.int nr), some (.int np), some (.int g), some (.int s), some (inL (u ++ [x])), none, y9] = some (1, inL (keys l0)) := by
    rw [show inL (keys l0) = .lst (l0.map fun p => .int p.1) by simp [inL, keys]]
    exact ev_lc (ds := l0.map pr) rfl (lc_all (tg := .one 8) pr (fun p => .int p.1) fun p _ => ⟨_, rfl, 0, rfl⟩)
  have e3 : ev (CC k) G (.cmp .isin (.idx (.var 7) (.neg (.int 1))) (.lc [8] (.one 8) (.itr (.var 1)) .yes (.idx (.var 8) (.int 0)))) [some (mvD ms), some (mvD l0), none, some (.int nr), some (.int np), some (.int g), some (.int s), some (inL (u ++ [x])), none, y9] = some (0, .bl (decide (x ∈ keys l0))) := by
    rw [ev, e2]
    simp only [ev, List.getElem?_cons_zero, List.getElem?_cons_succ, i0, Option.map_some, cmpD, ind_in]
  unfold whlC
  rw [ev, e1]
  by_cases h : x ∉ u
  · rw [decide_eq_true h]
    dsimp only
    rw [e3]; simp
  · rw [decide_eq_false h]
    simp
theorem nxt_ev {seen u : List Int} {nr np g s x y : Int} {x9 : Option (Nat × D)} (hl : look l0 x = some y) (hc : (u ++ [x]).length < cap) : PV.exec (CC k) G W (.cons (.app 7 nxtE) .nil) (envW ms l0 seen nr np g s (some (1, inL (u ++ [x]))) x9) = some (.nx (envW ms l0 seen nr np g s (some (1, inL (u ++ [x] ++ [y]))) x9)) := by
  have gx : ∃ y9, expose (fv nxtE) 0 (envW ms l0 seen nr np g s (some (1, inL (u ++ [x]))) x9) = [some (mvD ms), some (mvD l0), none, some (.int nr), some (.int np), some (.int g), some (.int s), some (inL (u ++ [x])), none, y9] := by
    cases x9 with
    | none => exact ⟨_, rfl⟩
    | some v => exact ⟨_, rfl⟩
  obtain ⟨y9, gx⟩ := gx
  have i0 : idxD (inL (u ++ [x])) (.int (-1)) = some (.int x) := ati_last
  have e2 : ev (CC k) G (.lc [8] (.one 8) (.itr (.var 1)) (.cmp .eq (.idx (.var 8) (.int 0)) (.idx (.var 7) (.neg (.int 1)))) (.idx (.var 8) (.int 1))) [some (mvD ms), some (mvD l0), none, some (.int nr), some (.int np), some (.int g), some (.int s), some (inL (u ++ [x])), none, y9] = some (1, .lst ((l0.filter fun p => decide (p.1 = x)).map fun p => .int p.2)) := by
    refine ev_lc (ds := l0.map pr) rfl (lc_rule (tg := .one 8) pr (fun p => decide (p.1 = x)) (fun p => .int p.2) fun p _ => ⟨_, rfl, ⟨0, ?_⟩, fun _ => ⟨0, rfl⟩⟩)
    show (match (idxD (pr p) (.int 0)).map (fun d => (0, d)), (idxD (inL (u ++ [x])) (.int (-1))).map (fun d => (0, d)) with
      | some (_, x), some (_, y) => (cmpD .eq x y).map fun c => (0, D.bl c)
      | _, _ => none) = _
    rw [i0]
    show (eqD (.int p.1) (.int x)).map (fun c => (0, D.bl c)) = _
    rw [eqd_int]
    rfl
  have e3 : idxD (.lst ((l0.filter fun p => decide (p.1 = x)).map fun p => D.int p.2)) (.int 0) = some (.int y) := by
    refine atI_nat (j := 0) ?_
    rw [List.getElem?_map, ← List.head?_eq_getElem?, List.head?_filter]
    unfold look at hl
    obtain ⟨q, h1, h2⟩ := Option.map_eq_some_iff.mp hl
    rw [h1]
    show some (D.int q.2) = _
    rw [h2]
  have he : ev (CC k) G nxtE (expose (fv nxtE) 0 (envW ms l0 seen nr np g s (some (1, inL (u ++ [x]))) x9)) = some (0, .int y) := by
    rw [gx]
    unfold nxtE
    rw [ev, e2]
    simp only [ev, e3]
    rfl
  have e : inL (u ++ [x] ++ [y]) = .lst ((u ++ [x]).map D.int ++ [.int y]) := by simp [inL]
  refine (ex_nx (ex_app (i := 7) rfl (evS_ns he rfl) rfl (by rw [List.length_map]; exact hc))).trans ?_
  unfold envW
  rw [e]
  rfl
theorem way_per {seen t : List Int} {nr np g s : Int} {x9 : Option (Nat × D)} (h : Chain l0 g (g :: t)) (hl : (g :: t).length ≤ 100) : PV.exec (CC k) G W (.whl whlC (.cons (.app 7 nxtE) .nil)) (envW ms l0 seen nr np g s (some (1, inL [g])) x9) = some (.nx (envW ms l0 seen nr np g s (some (1, inL (g :: t ++ [g]))) x9)) := by
  have nd := chain_nodup h
  obtain ⟨lk, u0, z0, e0, h2, h3⟩ := chain_lk h
  have lkA : Lk (look l0) (g :: t ++ [g]) := by
    rw [e0]
    exact lk_append u0 (by rw [← e0]; exact lk) trivial h2
  have hk : ∀ x ∈ g :: t, x ∈ keys l0 := fun x hx => by
    obtain ⟨y, h4, _⟩ := chain_next h x hx
    exact key_mem (look_mem h4)
  refine whl_rule (P := fun o => o = some (.nx (envW ms l0 seen nr np g s (some (1, inL (g :: t ++ [g]))) x9))) (fun m ρ => ∃ u x rest, g :: t ++ [g] = u ++ x :: rest ∧ m = rest.length ∧ ρ = envW ms l0 seen nr np g s (some (1, inL (u ++ [x]))) x9) ?_ W (t ++ [g]).length _ (by show _ < 1000000; simp at hl ⊢; omega) ⟨[], g, t ++ [g], rfl, rfl, rfl⟩
  rintro m ρ ⟨u, x, rest, e, rfl, rfl⟩
  cases rest with
  | nil =>
    have ex : g = x := last_eq e
    subst ex
    have eu : g :: t = u := List.append_cancel_right e
    refine .inl ⟨?_, by rw [e]⟩
    rw [cond_ev, decide_eq_false (by rw [← eu]; simp)]; rfl
  | cons y rest =>
    -- x stands in the ring itself
    obtain ⟨v, er⟩ : ∃ v, g :: t = u ++ x :: v := by
      obtain ⟨w, z, hz⟩ := last_of y rest
      rw [hz] at e
      refine ⟨w, List.append_cancel_right (bs := [g]) ?_⟩
      have : g = z := last_eq (u := g :: t) (v := u ++ x :: w) (by rw [e]; simp)
      rw [e, this]; simp
    have hx : x ∈ g :: t := by rw [er]; simp
    have hxu : x ∉ u := fun z => by
      rw [er, List.nodup_append] at nd
      exact nd.2.2 x z x (by simp) rfl
    have hxy : look l0 x = some y := lk_mid u (by rw [← e]; exact lkA)
    refine .inr ⟨by rw [cond_ev, decide_eq_true hxu, decide_eq_true (hk x hx)]; rfl, .inl ⟨_, rest.length, Nat.lt_succ_self _, ⟨u ++ [x], y, rest, by rw [e]; simp, rfl, rfl⟩, nxt_ev k hxy ?_⟩⟩
    have := congrArg List.length er
    simp at this hl ⊢
    show _ < 100000
    omega
theorem way_not {seen : List Int} {nr np g s : Int} {x9 : Option (Nat × D)} (hg : g ∈ keys l0) (h : ¬ Per l0 g) (hl : l0.length ≤ 10) : ∃ u x, x ≠ g ∧ PV.exec (CC k) G W (.whl whlC (.cons (.app 7 nxtE) .nil)) (envW ms l0 seen nr np g s (some (1, inL [g])) x9) = some (.nx (envW ms l0 seen nr np g s (some (1, inL (u ++ [x]))) x9)) := by
  refine whl_rule (P := fun o => ∃ u x, x ≠ g ∧ o = some (.nx (envW ms l0 seen nr np g s (some (1, inL (u ++ [x]))) x9))) (fun m ρ => ∃ u x r, u ++ [x] = g :: r ∧ Lk (look l0) (u ++ [x]) ∧ u.Nodup ∧ (∀ y ∈ u, y ∈ keys l0) ∧ m + u.length = 11 ∧ ρ = envW ms l0 seen nr np g s (some (1, inL (u ++ [x]))) x9) ?_ W 11 _ (by decide) ⟨[], g, [], rfl, (by simp [Lk]), List.nodup_nil, (fun _ h => nomatch h), rfl, rfl⟩
  rintro m ρ ⟨u, x, r, e, lk, nd, hu, hm, rfl⟩
  by_cases hc : x ∉ u ∧ x ∈ keys l0
  · obtain ⟨y, hy⟩ := look_key hc.2
    have hu2 : (u ++ [x]).Nodup := by
      rw [List.nodup_append]
      exact ⟨nd, by simp, fun a ha b hb q => hc.1 (by
        have : b = x := by simpa using hb
        rw [← this, ← q]; exact ha)⟩
    have hk2 : ∀ y ∈ u ++ [x], y ∈ keys l0 := fun y hy => by
      rcases List.mem_append.mp hy with q | q
      · exact hu y q
      · have : y = x := by simpa using q
        rw [this]; exact hc.2
    have hlen := ph_le hu2 hk2
    have hk3 : (keys l0).length = l0.length := by simp [keys]
    rw [hk3, List.length_append] at hlen
    have hlen : u.length + 1 ≤ l0.length := hlen
    refine .inr ⟨by rw [cond_ev, decide_eq_true hc.1, decide_eq_true hc.2]; rfl, .inl ⟨_, m - 1, by omega, ⟨u ++ [x], y, r ++ [y], by rw [e]; rfl, lk_append u lk trivial hy, hu2, hk2, by rw [List.length_append]; show _ + (u.length + 1) = 11; omega, rfl⟩, nxt_ev k hy ?_⟩⟩
    rw [List.length_append]
    show u.length + 1 < 100000
    omega
  · refine .inl ⟨?_, u, x, fun ex => h ?_, rfl⟩
    · rw [cond_ev, ← Bool.decide_and, decide_eq_false hc]
    · subst ex
      cases u with
      | nil => exact absurd ⟨(fun z => nomatch z), hg⟩ hc
      | cons a u =>
        have ea : a = x := (List.cons.inj e).1
        subst ea
        obtain ⟨v, z, hz⟩ := last_of a u
        refine ⟨u, chain_of hz (lk_left _ _ lk) ?_ (List.nodup_cons.mp nd).1⟩
        rw [hz, List.append_assoc] at lk
        exact lk_mid v lk
end
end K7

set_option Elab.async false
set_option linter.all false
set_option maxRecDepth 100000
set_option maxHeartbeats 4000000
/-! k07, part T: _law_rings, whole. -/
namespace K7
open PySem PySem.Spec PyProof.Rows L2 PV
def rgB : Sta := (.cons (.set 7 (.lst (.cons (.var 5) .nil)))
    (.cons (.whl whlC (.cons (.app 7 nxtE) .nil))
    (.cons (.ite (.and_ (.cmp .eq (.idx (.var 7) (.neg (.int 1))) (.var 5)) (.cmp .notin (.var 5) (.var 2))) (.cons (.set 9 (.slc (.var 7) .nil (.itr (.neg (.int 1)))))
    (.cons (.set 2 (.bin .add (.var 2) (.var 9)))
    (.cons (.set 3 (.bin .add (.var 3) (.int 1)))
    (.cons (.ite (.cmp .eq (.lc [8] (.one 8) (.itr (.var 1)) (.and_ (.cmp .isin (.idx (.var 8) (.int 1)) (.var 9)) (.cmp .notin (.idx (.var 8) (.int 0)) (.var 9))) (.var 8)) (.lst .nil)) (.cons (.set 4 (.bin .add (.var 4) (.int 1)))
    .nil) .nil)
    .nil)))) .nil)
    .nil)))
section
variable {ms l0 : List (Int × Int)} (k : Nat)
theorem if_ev {seen u : List Int} {nr np g s x : Int} {x9 : Option (Nat × D)} : evB (CC k) G (.and_ (.cmp .eq (.idx (.var 7) (.neg (.int 1))) (.var 5)) (.cmp .notin (.var 5) (.var 2))) (envW ms l0 seen nr np g s (some (1, inL (u ++ [x]))) x9) = some (decide (x = g) && decide (g ∉ seen)) := by
  have gx : ∃ y9, expose (fv (.and_ (.cmp .eq (.idx (.var 7) (.neg (.int 1))) (.var 5)) (.cmp .notin (.var 5) (.var 2)))) 0 (envW ms l0 seen nr np g s (some (1, inL (u ++ [x]))) x9) = [some (mvD ms), some (mvD l0), some (inL seen), some (.int nr), some (.int np), some (.int g), some (.int s), some (inL (u ++ [x])), none, y9] := by
    cases x9 with
    | none => exact ⟨_, rfl⟩
    | some v => exact ⟨_, rfl⟩
  obtain ⟨y9, gx⟩ := gx
  refine evB_of (k := 0) ?_
  rw [gx]
  have i0 : idxD (inL (u ++ [x])) (.int (-1)) = some (.int x) := ati_last
  have e1 : ev (CC k) G (.cmp .eq (.idx (.var 7) (.neg (.int 1))) (.var 5)) [some (mvD ms), some (mvD l0), some (inL seen), some (.int nr), some (.int np), some (.int g), some (.int s), some (inL (u ++ [x])), none, y9] = some (0, .bl (x == g)) := by
    simp only [ev, List.getElem?_cons_zero, List.getElem?_cons_succ, i0, Option.map_some, cmpD, eqd_int]
  have e2 : ev (CC k) G (.cmp .notin (.var 5) (.var 2)) [some (mvD ms), some (mvD l0), some (inL seen), some (.int nr), some (.int np), some (.int g), some (.int s), some (inL (u ++ [x])), none, y9] = some (0, .bl (decide (g ∉ seen))) := by
    simp only [ev, List.getElem?_cons_zero, List.getElem?_cons_succ, cmpD, ind_in]
    simp
  rw [ev, e1]
  by_cases h : x = g
  · rw [show (x == g) = true from beq_iff_eq.mpr h]
    dsimp only
    rw [e2, decide_eq_true h]; simp
  · rw [show (x == g) = false from beq_eq_false_iff_ne.mpr h, decide_eq_false h]
    simp
theorem count_step {seen t : List Int} {nr np g s : Int} {x9 : Option (Nat × D)} (hs : seen.length ≤ 1000) (ht : (g :: t).length ≤ 100) (hn : g ∉ seen) :
    PV.exec (CC k) G W (.ite (.and_ (.cmp .eq (.idx (.var 7) (.neg (.int 1))) (.var 5)) (.cmp .notin (.var 5) (.var 2))) (.cons (.set 9 (.slc (.var 7) .nil (.itr (.neg (.int 1)))))
    (.cons (.set 2 (.bin .add (.var 2) (.var 9)))
    (.cons (.set 3 (.bin .add (.var 3) (.int 1)))
    (.cons (.ite (.cmp .eq (.lc [8] (.one 8) (.itr (.var 1)) (.and_ (.cmp .isin (.idx (.var 8) (.int 1)) (.var 9)) (.cmp .notin (.idx (.var 8) (.int 0)) (.var 9))) (.var 8)) (.lst .nil)) (.cons (.set 4 (.bin .add (.var 4) (.int 1)))
    .nil) .nil)
    .nil)))) .nil) (envW ms l0 seen nr np g s (some (1, inL (g :: t ++ [g]))) x9) = some (.nx (envW ms l0 (seen ++ (g :: t)) (nr + 1) (if pureB l0 (g :: t) = true then np + 1 else np) g s (some (1, inL (g :: t ++ [g]))) (some (1, inL (g :: t))))) := by
  refine (ex_true (by rw [if_ev, decide_eq_true rfl, decide_eq_true hn]; rfl)).trans ?_
  have p1 : PV.exec (CC k) G W (.set 9 (.slc (.var 7) .nil (.itr (.neg (.int 1))))) (envW ms l0 seen nr np g s (some (1, inL (g :: t ++ [g]))) x9) = some (.nx (envW ms l0 seen nr np g s (some (1, inL (g :: t ++ [g]))) (some (1, inL (g :: t))))) := by
    refine ex_set (i := 9) (evS_ns ?_ (nosh_in _))
    have g7 := exp_get (m := fv (.slc (.var 7) .nil (.itr (.neg (.int 1))))) (i := 0) (j := 7) (ρ := envW ms l0 seen nr np g s (some (1, inL (g :: t ++ [g]))) x9) rfl (.inr (by decide))
    have hs : slcD (inL (g :: t ++ [g])) none (some (-1)) = some (1, inL (g :: t)) := by rw [slc_init, List.dropLast_concat]
    simp only [ev, evO, g7, hs]
  refine (ex_nx p1).trans ?_
  have p2 : ev (CC k) G (.bin .add (.var 2) (.var 9)) [some (mvD ms), some (mvD l0), some (inL seen), some (.int nr), some (.int np), some (.int g), some (.int s), none, none, some (inL (g :: t))] = some (1, inL (seen ++ (g :: t))) := by
    simp only [ev, List.getElem?_cons_zero, List.getElem?_cons_succ, binD]
    exact add_in (by show _ ≤ 100000; omega)
  refine (ex_nx (ex_set (i := 2) (evS_ns p2 (nosh_in _)))).trans ?_
  refine (ex_nx (ex_set (i := 3) (k := 0) (d := .int (nr + 1)) rfl)).trans ?_
  show PV.exec (CC k) G W _ (envW ms l0 (seen ++ (g :: t)) (nr + 1) np g s (some (1, inL (g :: t ++ [g]))) (some (1, inL (g :: t)))) = _
  have p4 : evB (CC k) G (.cmp .eq (.lc [8] (.one 8) (.itr (.var 1)) (.and_ (.cmp .isin (.idx (.var 8) (.int 1)) (.var 9)) (.cmp .notin (.idx (.var 8) (.int 0)) (.var 9))) (.var 8)) (.lst .nil)) (envW ms l0 (seen ++ (g :: t)) (nr + 1) np g s (some (1, inL (g :: t ++ [g]))) (some (1, inL (g :: t)))) = some (pureB l0 (g :: t)) := by
    refine evB_of (k := 0) ?_
    show ev (CC k) G _ [some (mvD ms), some (mvD l0), none, some (.int (nr + 1)), some (.int np), some (.int g), some (.int s), none, none, some (inL (g :: t))] = _
    have e1 : ev (CC k) G (.lc [8] (.one 8) (.itr (.var 1)) (.and_ (.cmp .isin (.idx (.var 8) (.int 1)) (.var 9)) (.cmp .notin (.idx (.var 8) (.int 0)) (.var 9))) (.var 8)) [some (mvD ms), some (mvD l0), none, some (.int (nr + 1)), some (.int np), some (.int g), some (.int s), none, none, some (inL (g :: t))] = some (1, mvD (l0.filter fun e => decide (e.2 ∈ g :: t) && decide (e.1 ∉ g :: t))) := by
      refine ev_lc (ds := l0.map pr) rfl (lc_rule (tg := .one 8) pr (fun e => decide (e.2 ∈ g :: t) && decide (e.1 ∉ g :: t)) pr fun p _ => ⟨_, rfl, ⟨0, ?_⟩, fun _ => ⟨0, rfl⟩⟩)
      have a1 : ev (CC k) G (.cmp .isin (.idx (.var 8) (.int 1)) (.var 9)) [some (mvD ms), some (mvD l0), none, some (.int (nr + 1)), some (.int np), some (.int g), some (.int s), none, some (pr p), some (inL (g :: t))] = some (0, .bl (decide (p.2 ∈ g :: t))) := by
        show (inD (.int p.2) (inL (g :: t))).map (fun c => (0, D.bl c)) = _
        rw [ind_in]; rfl
      have a2 : ev (CC k) G (.cmp .notin (.idx (.var 8) (.int 0)) (.var 9)) [some (mvD ms), some (mvD l0), none, some (.int (nr + 1)), some (.int np), some (.int g), some (.int s), none, some (pr p), some (inL (g :: t))] = some (0, .bl (decide (p.1 ∉ g :: t))) := by
        show ((inD (.int p.1) (inL (g :: t))).map (!·)).map (fun c => (0, D.bl c)) = _
        rw [ind_in]; simp
      show ev (CC k) G (.and_ (.cmp .isin (.idx (.var 8) (.int 1)) (.var 9)) (.cmp .notin (.idx (.var 8) (.int 0)) (.var 9))) [some (mvD ms), some (mvD l0), none, some (.int (nr + 1)), some (.int np), some (.int g), some (.int s), none, some (pr p), some (inL (g :: t))] = _
      rw [ev, a1]
      by_cases h : p.2 ∈ g :: t
      · rw [decide_eq_true h]
        dsimp only
        rw [a2]; simp
      · rw [decide_eq_false h]
        simp
    rw [ev, e1]
    have e0 : ev (CC k) G (.lst .nil) [some (mvD ms), some (mvD l0), none, some (.int (nr + 1)), some (.int np), some (.int g), some (.int s), none, none, some (inL (g :: t))] = some (1, .lst []) := rfl
    rw [e0]
    show (eqD (mvD _) (.lst [])).map (fun c => (0, D.bl c)) = _
    rw [eqd_mv_nil]; rfl
  cases hp : pureB l0 (g :: t) with
  | true =>
    rw [hp] at p4
    refine (ex_nx ((ex_true p4).trans ((ex_nx (ex_set (i := 4) (k := 0) (d := .int (np + 1)) rfl)).trans rfl))).trans ?_
    rfl
  | false =>
    rw [hp] at p4
    refine (ex_nx ((ex_false p4).trans rfl)).trans ?_
    rfl
theorem rings_ok (hnd : (ms.map (·.1)).Nodup) (hl : ms.length ≤ 10) : ∃ R, RSeq (left0 ms) [] (left0 ms) R ∧ CC (k + 1) "_law_rings" [mvD ms] [] [] = some (0, .tup [.int (R.length : Nat), .int (pureC (left0 ms) R : Nat), .int ((left0 ms).length : Nat)]) := by
  generalize hl0 : left0 ms = l0
  have hlen : l0.length ≤ 10 := by rw [← hl0]; exact Nat.le_trans (List.length_filter_le _ _) hl
  have ndk : (keys l0).Nodup := by rw [← hl0]; exact ((List.filter_sublist (l := ms)).map _).nodup hnd
  have hloop : ∃ R x5 x6 x7 x9 seen, RSeq l0 [] l0 R ∧ PV.exec (CC k) G W (.for_ (.many [5, 6]) (.itr (.var 1)) rgB) [some (0, mvD ms), some (1, mvD l0), some (1, inL []), some (0, .int 0), some (0, .int 0), none, none, none, none, none] = some (.nx [some (0, mvD ms), some (0, mvD l0), some (1, inL seen), some (0, .int (R.length : Nat)), some (0, .int (pureC l0 R : Nat)), x5, x6, x7, none, x9]) := by
    rw [ex_for (ds := l0.map pr) rfl rfl]
    refine for_rule (tg := .many [5, 6]) (f := fun r => PV.exec (CC k) G W rgB r) (P := fun o => ∃ R x5 x6 x7 x9 seen, RSeq l0 [] l0 R ∧ o = some (.nx [some (0, mvD ms), some (0, mvD l0), some (1, inL seen), some (0, .int (R.length : Nat)), some (0, .int (pureC l0 R : Nat)), x5, x6, x7, none, x9]))
      (fun ds ρ => ∃ done todo seen Rd x5 x6 x7 x9, l0 = done ++ todo ∧ ds = todo.map pr ∧ (∀ Rl, RSeq l0 seen todo Rl → RSeq l0 [] l0 (Rd ++ Rl)) ∧ seen.length ≤ 100 * done.length ∧ ρ = [some (0, mvD ms), some (0, mvD l0), some (1, inL seen), some (0, .int (Rd.length : Nat)), some (0, .int (pureC l0 Rd : Nat)), x5, x6, x7, none, x9]) ?_ ?_ _ _ ⟨[], l0, [], [], none, none, none, none, rfl, rfl, fun Rl h => h, Nat.le_refl _, rfl⟩
    · rintro ρ ⟨done, todo, seen, Rd, x5, x6, x7, x9, e1, e2, h, _, rfl⟩
      cases todo with
      | nil => exact ⟨Rd, x5, x6, x7, x9, seen, by simpa using h [] .nil, rfl⟩
      | cons e todo => cases e2
    · rintro d ds ρ ⟨done, todo, seen, Rd, x5, x6, x7, x9, e1, e2, h, hsl, rfl⟩
      cases todo with
      | nil => cases e2
      | cons e todo =>
        obtain ⟨g, s⟩ := e
        cases e2
        refine ⟨envW ms l0 seen (Rd.length : Nat) (pureC l0 Rd : Nat) g s x7 x9, rfl, .inl ?_⟩
        have hgm : (g, s) ∈ l0 := by rw [e1]; simp
        have hdl : done.length ≤ 10 := by
          have := congrArg List.length e1
          rw [List.length_append] at this
          omega
        have s7 : PV.exec (CC k) G W (.set 7 (.lst (.cons (.var 5) .nil))) (envW ms l0 seen (Rd.length : Nat) (pureC l0 Rd : Nat) g s x7 x9) = some (.nx (envW ms l0 seen (Rd.length : Nat) (pureC l0 Rd : Nat) g s (some (1, inL [g])) x9)) := by
          refine ex_set (i := 7) (evS_ns (k := 1) (d := inL [g]) ?_ (nosh_in _))
          have g5 := exp_get (m := fv (.lst (.cons (.var 5) .nil))) (i := 0) (j := 5) (ρ := envW ms l0 seen (Rd.length : Nat) (pureC l0 Rd : Nat) g s x7 x9) rfl (.inl rfl)
          simp only [ev, evs, g5]
          rfl
        by_cases hp : Per l0 g
        · obtain ⟨t, ht⟩ := hp
          have htl : (g :: t).length ≤ 10 := by
            have hk3 : (keys l0).length = l0.length := by simp [keys]
            have := ph_le (chain_nodup ht) (b := keys l0) fun x hx => by
              obtain ⟨y, h4, _⟩ := chain_next ht x hx
              exact key_mem (look_mem h4)
            omega
          have w := way_per (ms := ms) (seen := seen) (nr := (Rd.length : Nat)) (np := (pureC l0 Rd : Nat)) (s := s) (x9 := x9) k ht (by omega)
          by_cases hs : g ∈ seen
          · refine ⟨envW ms l0 seen (Rd.length : Nat) (pureC l0 Rd : Nat) g s (some (1, inL (g :: t ++ [g]))) x9, ?_, done ++ [(g, s)], todo, seen, Rd, _, _, _, _, by rw [e1]; simp, rfl, fun Rl hR => h Rl (.skip (.inl hs) hR), by rw [List.length_append]; omega, rfl⟩
            refine (ex_nx s7).trans ((ex_nx w).trans ((ex_nx ((ex_false ?_).trans rfl)).trans rfl))
            rw [if_ev]; simp [hs]
          · refine ⟨_, (ex_nx s7).trans ((ex_nx w).trans ((ex_nx (count_step k (by omega) (by omega) hs)).trans rfl)), done ++ [(g, s)], todo, seen ++ (g :: t), Rd ++ [g :: t], some (0, .int g), some (0, .int s), some (1, inL (g :: t ++ [g])), some (1, inL (g :: t)), by rw [e1]; simp, rfl, fun Rl hR => ?_, ?_, ?_⟩
            · have := h ((g :: t) :: Rl) (.ring hs ht hR)
              simpa using this
            · rw [List.length_append, List.length_append]
              show seen.length + (g :: t).length ≤ 100 * (done.length + 1)
              omega
            · have e1 : ((Rd ++ [g :: t]).length : Int) = (Rd.length : Int) + 1 := by simp
              have e2 : ((pureC l0 (Rd ++ [g :: t]) : Nat) : Int) = if pureB l0 (g :: t) = true then ((pureC l0 Rd : Nat) : Int) + 1 else ((pureC l0 Rd : Nat) : Int) := by
                unfold pureC
                rw [List.filter_append]
                by_cases hb : pureB l0 (g :: t) = true
                · rw [if_pos hb, List.filter_cons_of_pos hb]; simp
                · rw [if_neg hb, List.filter_cons_of_neg hb]; simp
              rw [e1, e2]
        · obtain ⟨u, x, hx, w⟩ := way_not (ms := ms) (seen := seen) (nr := (Rd.length : Nat)) (np := (pureC l0 Rd : Nat)) (s := s) (x9 := x9) k (key_mem hgm) hp hlen
          refine ⟨envW ms l0 seen (Rd.length : Nat) (pureC l0 Rd : Nat) g s (some (1, inL (u ++ [x]))) x9, ?_, done ++ [(g, s)], todo, seen, Rd, _, _, _, _, by rw [e1]; simp, rfl, fun Rl hR => h Rl (.skip (.inr hp) hR), by rw [List.length_append]; omega, rfl⟩
          refine (ex_nx s7).trans ((ex_nx w).trans ((ex_nx ((ex_false ?_).trans rfl)).trans rfl))
          rw [if_ev, decide_eq_false hx]; rfl
  obtain ⟨R, x5, x6, x7, x9, seen, hR, hx⟩ := hloop
  refine ⟨R, hR, ?_⟩
  show runD (CC k) G W d_law_rings [mvD ms] = _
  unfold runD
  have : PV.exec (CC k) G W d_law_rings.body (env0 d_law_rings.N [mvD ms]) = some (.rt 0 (.tup [.int (R.length : Nat), .int (pureC l0 R : Nat), .int (l0.length : Nat)])) := by
    have e1 : ev (CC k) G (.lc [8] (.one 8) (.itr (.var 0)) (.cmp .ne (.idx (.var 8) (.int 0)) (.idx (.var 8) (.int 1))) (.var 8)) [some (mvD ms), none, none, none, none, none, none, none, none, none] = some (1, mvD l0) := by
      rw [← hl0]
      refine ev_lc (ds := ms.map pr) rfl (lc_rule (tg := .one 8) pr (fun p => decide (p.1 ≠ p.2)) pr fun p _ => ⟨_, rfl, ⟨0, ?_⟩, fun _ => ⟨0, rfl⟩⟩)
      show ((eqD (.int p.1) (.int p.2)).map (!·)).map (fun c => (0, D.bl c)) = _
      rw [eqd_int]
      by_cases h : p.1 = p.2
      · simp [h]
      · simp [h]
    refine (ex_nx (ex_set (i := 1) (evS_ns e1 (nosh_mv _)))).trans ?_
    refine (ex_nx (ρ' := [some (0, mvD ms), some (1, mvD l0), none, some (0, .int 0), some (0, .int 0), none, none, none, none, none]) rfl).trans ?_
    refine (ex_nx (ρ' := [some (0, mvD ms), some (1, mvD l0), some (1, inL []), some (0, .int 0), some (0, .int 0), none, none, none, none, none]) rfl).trans ?_
    refine (ex_nx hx).trans ?_
    refine ex_rt (ex_ret (ρ' := _) (evS_ns (k := 0) ?_ rfl))
    have hb : bltD .len (mvD l0) = some (0, .int (l0.length : Nat)) := by
      show some (0, D.int ((l0.map pr).length : Nat)) = _
      rw [List.length_map]
    simp only [ev, evs]
    rw [exp_get (k := 0) (d := .int (R.length : Nat)) (i := 0) (j := 3) rfl (.inl rfl), exp_get (k := 0) (d := .int (pureC l0 R : Nat)) (i := 0) (j := 4) rfl (.inl rfl), exp_get (k := 0) (d := mvD l0) (i := 0) (j := 1) rfl (.inl rfl)]
    dsimp only
    rw [hb]
    rfl
  rw [this]
end
end K7

set_option Elab.async false
set_option linter.all false
set_option maxRecDepth 100000
set_option maxHeartbeats 4000000
/-! k07, part U: cells, digits, moves. -/
namespace K7
open PySem PySem.Spec PyProof.Rows L2 PV
theorem toPys_ints : ∀ ns : List Int, toPys (ns.map D.int) = ns.map PyData.int
  | [] => rfl
  | x :: ns => by
    show PyData.int x :: toPys (ns.map D.int) = _
    rw [toPys_ints ns]; rfl
theorem mul_c (a c : Int) (h : -(2 ^ 64) < c ∧ c < 2 ^ 64) : binD .mul (.int a) (.int c) = some (0, .int (a * c)) := by
  show (if (-(2 ^ 64) < a ∧ a < 2 ^ 64) ∨ (-(2 ^ 64) < c ∧ c < 2 ^ 64) then some (0, D.int (a * c)) else none) = _
  rw [if_pos (.inr h)]
theorem add_c (a b : Int) : binD .add (.int a) (.int b) = some (0, .int (a + b)) := rfl
theorem mod_c (a c : Int) (h : 0 < c) : binD .mod (.int a) (.int c) = some (0, .int (a % c)) := by
  show (if 0 < c then some (0, D.int (a % c)) else none) = _
  rw [if_pos h]
theorem fdiv_c (a c : Int) (h : 0 < c ∧ c < 1073741824) : binD .fdiv (.int a) (.int c) = some (0, .int (a / c)) := by
  show (if 0 < c ∧ c < 1073741824 then some (0, D.int (a / c)) else none) = _
  rw [if_pos h]
theorem cell_ok (k : Nat) (ns : List Int) (j : Nat) : ∃ c : Int, CC (k + 1) "_law_cell_at" [.rol ns, .int (j : Nat)] [] [] = some (0, .int c) := by
  show ∃ c : Int, runD (CC k) G W d_law_cell_at [.rol ns, .int (j : Nat)] = _
  have hb1 : ev (CC k) G (.cmp .lt (.var 1) (.blt .len (.var 0))) [some (.rol ns), some (.int (j : Nat))] = some (0, .bl (decide ((j : Int) < (ns.length : Nat)))) := rfl
  unfold runD
  by_cases h : j < ns.length
  · have hi : idxD (.rol ns) (.int (j : Nat)) = some (.int ns[j]) := by
      show (atI ns (j : Nat)).map D.int = _
      rw [atI_nat (List.getElem?_eq_getElem h)]; rfl
    refine ⟨ns[j], ?_⟩
    have : PV.exec (CC k) G W d_law_cell_at.body (env0 d_law_cell_at.N [.rol ns, .int (j : Nat)]) = some (.rt 0 (.int ns[j])) := by
      rw [decide_eq_true (show (j : Int) < (ns.length : Nat) by omega)] at hb1
      refine ex_rt ((ex_true (evB_of (k := 0) hb1)).trans (ex_rt (ex_ret (ρ' := _) (evS_ns (k := 0) ?_ rfl))))
      show (idxD (.rol ns) (.int (j : Nat))).map (fun d => (0, d)) = _
      rw [hi]; rfl
    rw [this]
  · rw [decide_eq_false (show ¬ (j : Int) < (ns.length : Nat) by omega)] at hb1
    have hb2 : ev (CC k) G (.cmp .eq (.var 0) (.lst .nil)) [some (.rol ns), some (.int (j : Nat))] = some (0, .bl ns.isEmpty) := by
      show (eqD (.rol ns) (.lst [])).map (fun c => (0, D.bl c)) = _
      have : eqD (.rol ns) (.lst []) = some ns.isEmpty := by
        have sh : SeqAt.shaped (toPy (.rol ns)) = true := by
          have e : toPy (.rol ns) = toPy (inL ns) := by
            show PyData.list (ns.map PyData.int) = PyData.list (toPys (ns.map D.int))
            rw [toPys_ints]
          rw [e]; exact shaped_in ns
        show (if SeqAt.shaped (toPy (.rol ns)) = true ∧ SeqAt.shaped (toPy (.lst [])) = true then some (PyData.eqv (toPy (.rol ns)) (toPy (.lst []))) else none) = _
        rw [if_pos ⟨sh, by decide⟩]
        cases ns <;> rfl
      rw [this]; rfl
    cases hns : ns with
    | nil =>
      subst hns
      refine ⟨(j : Int) * 48271, ?_⟩
      have : PV.exec (CC k) G W d_law_cell_at.body (env0 d_law_cell_at.N [.rol [], .int (j : Nat)]) = some (.rt 0 (.int ((j : Int) * 48271))) := by
        refine (ex_nx ((ex_false (evB_of (k := 0) hb1)).trans rfl)).trans (ex_rt ((ex_true (evB_of (k := 0) hb2)).trans (ex_rt (ex_ret (ρ' := _) (evS_ns (k := 0) ?_ rfl)))))
        show ev (CC k) G (.bin .mul (.var 1) (.int 48271)) [some (.rol []), some (.int (j : Nat))] = _
        simp only [ev, List.getElem?_cons_zero, List.getElem?_cons_succ, mul_c _ 48271 (by decide)]
      rw [this]
    | cons x0 r =>
      rw [← hns]
      have hne : ns.isEmpty = false := by rw [hns]; rfl
      rw [hne] at hb2
      have hpos : 0 < ns.length := by rw [hns]; exact Nat.succ_pos _
      have hm : j % ns.length < ns.length := Nat.mod_lt _ hpos
      have hi : idxD (.rol ns) (.int ((j : Int) % (ns.length : Nat))) = some (.int ns[j % ns.length]) := by
        show (atI ns ((j : Int) % (ns.length : Nat))).map D.int = _
        rw [show (j : Int) % (ns.length : Nat) = ((j % ns.length : Nat) : Int) by omega]
        rw [atI_nat (List.getElem?_eq_getElem hm)]; rfl
      refine ⟨(ns[j % ns.length] + j) * 48271 % 2147483647, ?_⟩
      have : PV.exec (CC k) G W d_law_cell_at.body (env0 d_law_cell_at.N [.rol ns, .int (j : Nat)]) = some (.rt 0 (.int ((ns[j % ns.length] + j) * 48271 % 2147483647))) := by
        refine (ex_nx ((ex_false (evB_of (k := 0) hb1)).trans rfl)).trans ((ex_nx ((ex_false (evB_of (k := 0) hb2)).trans rfl)).trans (ex_rt (ex_ret (ρ' := _) (evS_ns (k := 0) ?_ rfl))))
        show ev (CC k) G (.bin .mod (.bin .mul (.bin .add (.idx (.var 0) (.bin .mod (.var 1) (.blt .len (.var 0)))) (.var 1)) (.int 48271)) (.int 2147483647)) [some (.rol ns), some (.int (j : Nat))] = _
        have e1 : binD .mod (.int (j : Nat)) (.int (ns.length : Nat)) = some (0, .int ((j : Int) % (ns.length : Nat))) := by
          show (if 0 < ((ns.length : Nat) : Int) then some (0, D.int ((j : Int) % (ns.length : Nat))) else none) = _
          rw [if_pos (by omega)]
        have e2 : bltD .len (.rol ns) = some (0, .int (ns.length : Nat)) := rfl
        simp only [ev, List.getElem?_cons_zero, List.getElem?_cons_succ, e2, e1, hi, Option.map_some, add_c, mul_c _ 48271 (by decide), mod_c _ 2147483647 (by decide)]
      rw [this]
/-! ### digits -/
def digs : Int → List Int → List Int
  | _, [] => []
  | r, b :: bs => r % b :: digs (r / b) bs
theorem digs_len : ∀ (r : Int) (bs : List Int), (digs r bs).length = bs.length
  | _, [] => rfl
  | r, b :: bs => by rw [digs, List.length_cons, List.length_cons, digs_len]
theorem numbers_ok (k : Nat) (c : Int) (bs : List Int) (hb : ∀ b ∈ bs, 0 < b ∧ b < 1073741824) (hl : bs.length ≤ 1000) : ∃ r, CC (k + 1) "_law_numbers" [.int c, inL bs] [] [] = some (1, inL (digs r bs)) := by
  show ∃ r, runD (CC k) G W d_law_numbers [.int c, inL bs] = _
  -- the loop, from any rest
  have loop : ∀ (r : Int), ∃ x2 x4, PV.exec (CC k) G W (.for_ (.one 4) (.itr (.var 1)) (.cons (.app 3 (.bin .mod (.var 2) (.var 4))) (.cons (.set 2 (.bin .fdiv (.var 2) (.var 4))) .nil))) [some (0, .int c), some (0, inL bs), some (0, .int r), some (1, inL []), none] = some (.nx [some (0, .int c), some (0, inL bs), x2, some (1, inL (digs r bs)), x4]) := by
    intro r
    rw [ex_for (ds := bs.map D.int) rfl rfl]
    refine for_rule (tg := .one 4) (f := fun e => PV.exec (CC k) G W (.cons (.app 3 (.bin .mod (.var 2) (.var 4))) (.cons (.set 2 (.bin .fdiv (.var 2) (.var 4))) .nil)) e) (P := fun o => ∃ x2 x4, o = some (.nx [some (0, .int c), some (0, inL bs), x2, some (1, inL (digs r bs)), x4])) (fun ds ρ => ∃ b1 b2 r' f x4, bs = b1 ++ b2 ∧ ds = b2.map D.int ∧ f.length = b1.length ∧ digs r bs = f ++ digs r' b2 ∧ ρ = [some (0, .int c), some (0, inL bs), some (0, .int r'), some (1, inL f), x4]) ?_ ?_ _ _ ⟨[], bs, r, [], none, rfl, rfl, rfl, rfl, rfl⟩
    · rintro ρ ⟨b1, b2, r', f, x4, e1, e2, e3, e4, rfl⟩
      cases b2 with
      | nil => exact ⟨some (0, .int r'), x4, by rw [e4]; simp [digs]⟩
      | cons b b2 => cases e2
    · rintro d ds ρ ⟨b1, b2, r', f, x4, e1, e2, e3, e4, rfl⟩
      cases b2 with
      | nil => cases e2
      | cons b b2 =>
        cases e2
        have hbb := hb b (by rw [e1]; simp)
        have hfl : f.length < cap := by
          have := congrArg List.length e1
          rw [List.length_append] at this
          show _ < 100000
          omega
        refine ⟨[some (0, .int c), some (0, inL bs), some (0, .int r'), some (1, inL f), some (0, .int b)], rfl, .inl ⟨[some (0, .int c), some (0, inL bs), some (0, .int (r' / b)), some (1, inL (f ++ [r' % b])), some (0, .int b)], ?_, b1 ++ [b], b2, r' / b, f ++ [r' % b], _, by rw [e1]; simp, rfl, by rw [List.length_append, List.length_append, e3]; rfl, by rw [e4]; simp [digs], rfl⟩⟩
        have m1 : ev (CC k) G (.bin .mod (.var 2) (.var 4)) [some (.int c), some (inL bs), some (.int r'), none, some (.int b)] = some (0, .int (r' % b)) := by
          simp only [ev, List.getElem?_cons_zero, List.getElem?_cons_succ, mod_c _ _ hbb.1]
        have m2 : ev (CC k) G (.bin .fdiv (.var 2) (.var 4)) [some (.int c), some (inL bs), some (.int r'), none, some (.int b)] = some (0, .int (r' / b)) := by
          simp only [ev, List.getElem?_cons_zero, List.getElem?_cons_succ, fdiv_c _ _ hbb]
        have e : inL (f ++ [r' % b]) = .lst (f.map D.int ++ [.int (r' % b)]) := by simp [inL]
        rw [e]
        refine (ex_nx (ex_app (i := 3) rfl (evS_ns m1 rfl) rfl (by rw [List.length_map]; exact hfl))).trans ?_
        refine (ex_nx (ex_set (i := 2) (evS_ns m2 rfl))).trans ?_
        rfl
  have e10 : ev (CC k) G (.cmp .lt (.var 0) (.bin .pow (.int 10) (.int 18))) [some (.int c), some (inL bs), some (.int c), none, none] = some (0, .bl (decide (c < 10 ^ 18))) := by
    have : binD .pow (.int 10) (.int 18) = some (0, .int (10 ^ 18)) := by
      show (if 0 ≤ (18 : Int) ∧ (18 : Int) ≤ 1000000 ∧ (10 : Int).natAbs < 2 ^ 64 then some (0, D.int ((10 : Int) ^ (18 : Int).toNat)) else none) = _
      rw [if_pos ⟨by decide, by decide, by decide⟩]; rfl
    simp only [ev, List.getElem?_cons_zero, this, cmpD]
    rfl
  unfold runD
  -- by the size of the cell
  have fin : ∀ r, PV.exec (CC k) G W (.ite (.cmp .lt (.var 0) (.bin .pow (.int 10) (.int 18))) (.cons (.set 2 (.bin .fdiv (.bin .pow (.bin .add (.bin .mul (.bin .mod (.var 0) (.int 2147483647)) (.int 48271)) (.int 12345)) (.int 5)) (.int 1013))) .nil) .nil) [some (0, .int c), some (0, inL bs), some (0, .int c), none, none] = some (.nx [some (0, .int c), some (0, inL bs), some (0, .int r), none, none]) → PV.exec (CC k) G W d_law_numbers.body (env0 d_law_numbers.N [.int c, inL bs]) = some (.rt 1 (inL (digs r bs))) := fun r hr => by
    refine (ex_nx (ex_set (i := 2) (k := 0) (d := .int c) (ρ' := [some (0, .int c), some (0, inL bs), none, none, none]) rfl)).trans ?_
    refine (ex_nx hr).trans ?_
    refine (ex_nx (ex_set (i := 3) (k := 1) (d := inL []) (ρ' := [some (0, .int c), some (0, inL bs), some (0, .int r), none, none]) rfl)).trans ?_
    obtain ⟨x2, x4, hl⟩ := loop r
    exact (ex_nx hl).trans rfl
  by_cases h : c < 10 ^ 18
  · rw [decide_eq_true h] at e10
    refine ⟨((c % 2147483647) * 48271 + 12345) ^ 5 / 1013, ?_⟩
    rw [fin _ ?_]
    refine (ex_true (evB_of (k := 0) e10)).trans ((ex_nx (ex_set (i := 2) (k := 0) (d := .int (((c % 2147483647) * 48271 + 12345) ^ 5 / 1013)) (ρ' := [some (0, .int c), some (0, inL bs), some (0, .int c), none, none]) (evS_ns ?_ rfl))).trans rfl)
    show ev (CC k) G _ [some (.int c), some (inL bs), some (.int c), none, none] = _
    have h1 : 0 ≤ c % 2147483647 := Int.emod_nonneg _ (by decide)
    have h2 : c % 2147483647 < 2147483647 := Int.emod_lt_of_pos _ (by decide)
    have hp : binD .pow (.int ((c % 2147483647) * 48271 + 12345)) (.int 5) = some (0, .int (((c % 2147483647) * 48271 + 12345) ^ 5)) := by
      show (if 0 ≤ (5 : Int) ∧ (5 : Int) ≤ 1000000 ∧ ((c % 2147483647) * 48271 + 12345).natAbs < 2 ^ 64 then some (0, D.int (((c % 2147483647) * 48271 + 12345) ^ (5 : Int).toNat)) else none) = _
      rw [if_pos ⟨by decide, by decide, by omega⟩]; rfl
    simp only [ev, List.getElem?_cons_zero, mod_c _ 2147483647 (by decide), mul_c _ 48271 (by decide), add_c, hp, fdiv_c _ 1013 (by decide)]
  · rw [decide_eq_false h] at e10
    refine ⟨c, ?_⟩
    rw [fin c ((ex_false (evB_of (k := 0) e10)).trans rfl)]
end K7

set_option Elab.async false
set_option linter.all false
set_option maxRecDepth 100000
set_option maxHeartbeats 4000000
/-! k07, part V: _law_moves. -/
namespace K7
open PySem PySem.Spec PyProof.Rows L2 PV
theorem digs_get : ∀ (r : Int) (bs : List Int) (i : Nat) (b : Int), bs[i]? = some b → 0 < b → ∃ x, (digs r bs)[i]? = some x ∧ 0 ≤ x ∧ x < b
  | _, [], i, b, h, _ => by simp at h
  | r, b' :: bs, 0, b, h, hb => by
    have : b' = b := by simpa using h
    subst this
    exact ⟨r % b', rfl, Int.emod_nonneg _ (by omega), Int.emod_lt_of_pos _ hb⟩
  | r, b' :: bs, i + 1, b, h, hb => by
    obtain ⟨x, h1, h2⟩ := digs_get (r / b') bs i b (by simpa using h) hb
    exact ⟨x, by simpa [digs] using h1, h2⟩
theorem flat_rep {α : Type} (x : α) : ∀ n : Nat, (List.replicate n [x]).flatten = List.replicate n x
  | 0 => rfl
  | n + 1 => by
    rw [List.replicate_succ, List.flatten_cons, flat_rep x n, List.replicate_succ]; rfl
theorem idx_in {xs : List Int} {i : Nat} {x : Int} (h : xs[i]? = some x) : idxD (inL xs) (.int (i : Nat)) = some (.int x) := by
  show atI (xs.map D.int) (i : Nat) = _
  refine atI_nat ?_
  rw [List.getElem?_map, h]; rfl
def mvB : Sta := (.cons (.set 6 (.idx (.var 2) (.idx (.var 3) (.bin .add (.int 1) (.bin .mul (.int 2) (.var 5))))))
    (.cons (.ite (.cmp .notin (.var 6) (.lc [7] (.one 7) (.itr (.var 4)) .yes (.idx (.var 7) (.int 0)))) (.cons (.app 4 (.tup (.cons (.var 6) (.cons (.idx (.var 2) (.idx (.var 3) (.bin .add (.int 2) (.bin .mul (.int 2) (.var 5))))) .nil))))
    .nil) .nil)
    .nil))
abbrev envM (c n : Int) (ps ds : List Int) (ms : List (Int × Int)) (x5 x6 : Option (Nat × D)) : PV.Env := [some (0, .int c), some (0, .int n), some (0, inL ps), some (0, inL ds), some (1, mvD ms), x5, x6, none]
theorem mv_step (k : Nat) {c n : Int} {ps ds : List Int} {ms : List (Int × Int)} {x6 : Option (Nat × D)} {j : Nat} {x y : Int} {gx gy : Int} (hx : ds[1 + 2 * j]? = some x) (hy : ds[2 + 2 * j]? = some y) (x0 : 0 ≤ x) (y0 : 0 ≤ y) (hgx : ps[x.toNat]? = some gx) (hgy : ps[y.toNat]? = some gy) (hl : ms.length < cap) :
    PV.exec (CC k) G W mvB (envM c n ps ds ms (some (0, .int (j : Nat))) x6) = some (.nx (envM c n ps ds (if gx ∈ ms.map (·.1) then ms else ms ++ [(gx, gy)]) (some (0, .int (j : Nat))) (some (0, .int gx)))) := by
  have ix : idxD (inL ps) (.int x) = some (.int gx) := by
    have := idx_in hgx
    rwa [Int.toNat_of_nonneg x0] at this
  have iy : idxD (inL ps) (.int y) = some (.int gy) := by
    have := idx_in hgy
    rwa [Int.toNat_of_nonneg y0] at this
  have jx : idxD (inL ds) (.int (1 + 2 * (j : Int))) = some (.int x) := by
    have := idx_in hx
    rwa [show ((1 + 2 * j : Nat) : Int) = 1 + 2 * (j : Int) by omega] at this
  have jy : idxD (inL ds) (.int (2 + 2 * (j : Int))) = some (.int y) := by
    have := idx_in hy
    rwa [show ((2 + 2 * j : Nat) : Int) = 2 + 2 * (j : Int) by omega] at this
  have m2 : binD .mul (.int 2) (.int (j : Nat)) = some (0, .int (2 * (j : Int))) := by
    show (if (-(2 ^ 64) < (2 : Int) ∧ (2 : Int) < 2 ^ 64) ∨ (-(2 ^ 64) < (j : Int) ∧ (j : Int) < 2 ^ 64) then some (0, D.int (2 * (j : Int))) else none) = _
    rw [if_pos (.inl (by decide))]
  have s6 : PV.exec (CC k) G W (.set 6 (.idx (.var 2) (.idx (.var 3) (.bin .add (.int 1) (.bin .mul (.int 2) (.var 5)))))) (envM c n ps ds ms (some (0, .int (j : Nat))) x6) = some (.nx (envM c n ps ds ms (some (0, .int (j : Nat))) (some (0, .int gx)))) := by
    refine ex_set (i := 6) (evS_ns (k := 0) (d := .int gx) ?_ rfl)
    have g2 := exp_get (m := fv (.idx (.var 2) (.idx (.var 3) (.bin .add (.int 1) (.bin .mul (.int 2) (.var 5)))))) (i := 0) (j := 2) (ρ := envM c n ps ds ms (some (0, .int (j : Nat))) x6) rfl (.inl rfl)
    have g3 := exp_get (m := fv (.idx (.var 2) (.idx (.var 3) (.bin .add (.int 1) (.bin .mul (.int 2) (.var 5)))))) (i := 0) (j := 3) (ρ := envM c n ps ds ms (some (0, .int (j : Nat))) x6) rfl (.inl rfl)
    have g5 := exp_get (m := fv (.idx (.var 2) (.idx (.var 3) (.bin .add (.int 1) (.bin .mul (.int 2) (.var 5)))))) (i := 0) (j := 5) (ρ := envM c n ps ds ms (some (0, .int (j : Nat))) x6) rfl (.inl rfl)
    simp only [ev, g2, g3, g5, m2, add_c, jx, Option.map_some, ix]
  refine (ex_nx s6).trans ?_
  have hif : evB (CC k) G (.cmp .notin (.var 6) (.lc [7] (.one 7) (.itr (.var 4)) .yes (.idx (.var 7) (.int 0)))) (envM c n ps ds ms (some (0, .int (j : Nat))) (some (0, .int gx))) = some (decide (gx ∉ ms.map (·.1))) := by
    refine evB_of (k := 0) ?_
    show ev (CC k) G _ [some (.int c), some (.int n), some (inL ps), some (inL ds), some (mvD ms), some (.int (j : Nat)), some (.int gx), none] = _
    have e1 : ev (CC k) G (.lc [7] (.one 7) (.itr (.var 4)) .yes (.idx (.var 7) (.int 0))) [some (.int c), some (.int n), some (inL ps), some (inL ds), some (mvD ms), some (.int (j : Nat)), some (.int gx), none] = some (1, inL (ms.map (·.1))) := by
      rw [show inL (ms.map (·.1)) = .lst (ms.map fun p => .int p.1) by simp [inL]]
      exact ev_lc (ds := ms.map pr) rfl (lc_all (tg := .one 7) pr (fun p => .int p.1) fun p _ => ⟨_, rfl, 0, rfl⟩)
    rw [ev, e1]
    simp only [ev, List.getElem?_cons_zero, List.getElem?_cons_succ, cmpD, ind_in]
    simp
  by_cases hm : gx ∈ ms.map (·.1)
  · rw [decide_eq_false (fun z => z hm)] at hif
    rw [if_pos hm]
    exact (ex_nx ((ex_false hif).trans rfl)).trans rfl
  · rw [decide_eq_true hm] at hif
    rw [if_neg hm]
    have e : mvD (ms ++ [(gx, gy)]) = .lst (ms.map pr ++ [pr (gx, gy)]) := by simp [mvD]
    have a4 : PV.exec (CC k) G W (.app 4 (.tup (.cons (.var 6) (.cons (.idx (.var 2) (.idx (.var 3) (.bin .add (.int 2) (.bin .mul (.int 2) (.var 5))))) .nil)))) (envM c n ps ds ms (some (0, .int (j : Nat))) (some (0, .int gx))) = some (.nx (envM c n ps ds (ms ++ [(gx, gy)]) (some (0, .int (j : Nat))) (some (0, .int gx)))) := by
      unfold envM
      rw [e]
      refine ex_app (k := 0) (d := pr (gx, gy)) rfl (evS_ns ?_ rfl) rfl (by rw [List.length_map]; exact hl)
      show ev (CC k) G _ [some (.int c), some (.int n), some (inL ps), some (inL ds), none, some (.int (j : Nat)), some (.int gx), none] = _
      simp only [ev, evs, List.getElem?_cons_zero, List.getElem?_cons_succ, m2, add_c, jy, Option.map_some, iy]
      rfl
    exact (ex_nx ((ex_true hif).trans ((ex_nx a4).trans rfl))).trans rfl
theorem moves_ok (k : Nat) (c : Int) (n : Nat) (ps : List Int) (hn : n ≤ 10) (h0 : 0 < ps.length) (hp : ps.length ≤ 100) : ∃ ms : List (Int × Int), ms.length ≤ n ∧ (ms.map (·.1)).Nodup ∧ (∀ p ∈ ms, p.1 ∈ ps ∧ p.2 ∈ ps) ∧ CC (k + 2) "_law_moves" [.int c, .int (n : Nat), inL ps] [] [] = some (1, mvD ms) := by
  generalize hbs : ((n : Int) + 1) :: List.replicate (2 * n) (ps.length : Int) = bs
  have hbl : bs.length = 2 * n + 1 := by rw [← hbs]; simp
  obtain ⟨r, hnum⟩ := numbers_ok k c bs (fun b hb => by
    rw [← hbs] at hb
    rcases List.mem_cons.mp hb with e | e
    · rw [e]; omega
    · have := (List.mem_replicate.mp e).2
      rw [this]; omega) (by omega)
  have hd0 : ∃ x, (digs r bs)[0]? = some x ∧ 0 ≤ x ∧ x < (n : Int) + 1 := digs_get r bs 0 _ (by rw [← hbs]; rfl) (by omega)
  have hdi : ∀ i, 1 ≤ i → i ≤ 2 * n → ∃ x, (digs r bs)[i]? = some x ∧ 0 ≤ x ∧ ∃ g, ps[x.toNat]? = some g ∧ g ∈ ps := fun i h1 h2 => by
    obtain ⟨x, h3, h4, h5⟩ := digs_get r bs i (ps.length : Int) (by
      rw [← hbs]
      obtain ⟨i', rfl⟩ : ∃ i', i = i' + 1 := ⟨i - 1, by omega⟩
      rw [List.getElem?_cons_succ, List.getElem?_replicate, if_pos (by omega)]) (by omega)
    have hlt : x.toNat < ps.length := by omega
    exact ⟨x, h3, h4, ps[x.toNat], List.getElem?_eq_getElem hlt, List.getElem_mem hlt⟩
  obtain ⟨d0, hd1, hd2, hd3⟩ := hd0
  generalize digs r bs = ds at *
  have hloop : ∃ ms x5 x6, ms.length ≤ n ∧ (ms.map (·.1)).Nodup ∧ (∀ p ∈ ms, p.1 ∈ ps ∧ p.2 ∈ ps) ∧ PV.exec (CC (k + 1)) G W (.for_ (.one 5) (.rng (.idx (.var 3) (.int 0))) mvB) [some (0, .int c), some (0, .int (n : Nat)), some (0, inL ps), some (1, inL ds), some (1, mvD []), none, none, none] = some (.nx (envM c (n : Nat) ps ds ms x5 x6)) := by
    have i0 : idxD (inL ds) (.int 0) = some (.int d0) := idx_in (i := 0) hd1
    rw [ex_for (ds := rngD d0) rfl (by
      show (match (idxD (inL ds) (.int 0)).map (fun d => (0, d)) with
        | some (_, .int n) => if n ≤ cap ∧ -(2 ^ 62) ≤ n then some (rngD n) else none
        | _ => none) = _
      rw [i0]
      show (if d0 ≤ (cap : Int) ∧ -(2 ^ 62) ≤ d0 then some (rngD d0) else none) = _
      rw [if_pos ⟨by show d0 ≤ 100000; omega, by omega⟩])]
    refine for_rule (tg := .one 5) (f := fun e => PV.exec (CC (k + 1)) G W mvB e) (P := fun o => ∃ ms x5 x6, ms.length ≤ n ∧ (ms.map (·.1)).Nodup ∧ (∀ p ∈ ms, p.1 ∈ ps ∧ p.2 ∈ ps) ∧ o = some (.nx (envM c (n : Nat) ps ds ms x5 x6))) (fun es ρ => (∀ d ∈ es, ∃ j : Nat, d = .int (j : Nat) ∧ j < n) ∧ ∃ ms x5 x6, ms.length + es.length ≤ n ∧ (ms.map (·.1)).Nodup ∧ (∀ p ∈ ms, p.1 ∈ ps ∧ p.2 ∈ ps) ∧ ρ = envM c (n : Nat) ps ds ms x5 x6) ?_ ?_ _ _ ⟨fun d hd => ?_, [], none, none, ?_, List.nodup_nil, (fun _ h => nomatch h), rfl⟩
    · rintro ρ ⟨_, ms, x5, x6, h1, h2, h3, rfl⟩
      exact ⟨ms, x5, x6, by simpa using h1, h2, h3, rfl⟩
    · rintro d es ρ ⟨hj, ms, x5, x6, h1, h2, h3, rfl⟩
      obtain ⟨j, rfl, hjn⟩ := hj d (List.mem_cons_self ..)
      obtain ⟨x, hx, x0, gx, hgx, gxm⟩ := hdi (1 + 2 * j) (by omega) (by omega)
      obtain ⟨y, hy, y0, gy, hgy, gym⟩ := hdi (2 + 2 * j) (by omega) (by omega)
      have st := mv_step (k + 1) (c := c) (n := (n : Nat)) (ms := ms) (x6 := x6) hx hy x0 y0 hgx hgy (by
        rw [List.length_cons] at h1
        show _ < 100000
        omega)
      refine ⟨envM c (n : Nat) ps ds ms (some (0, .int (j : Nat))) x6, rfl, .inl ⟨_, st, fun d hd => hj d (List.mem_cons_of_mem _ hd), _, _, _, ?_, ?_, ?_, rfl⟩⟩
      · rw [List.length_cons] at h1
        split
        · omega
        · rw [List.length_append]; show ms.length + 1 + _ ≤ n; omega
      · split
        · exact h2
        · rename_i hm
          rw [List.map_append, List.nodup_append]
          refine ⟨h2, by simp, fun a ha b hb e => hm ?_⟩
          have : b = gx := by simpa using hb
          rw [← this, ← e]; exact ha
      · split
        · exact h3
        · intro p hp
          rcases List.mem_append.mp hp with q | q
          · exact h3 p q
          · have : p = (gx, gy) := by simpa using q
            rw [this]; exact ⟨gxm, gym⟩
    · obtain ⟨j, h1, h2⟩ := List.mem_map.mp hd
      exact ⟨j, h2.symm, by have := List.mem_range.mp h1; omega⟩
    · show 0 + (rngD d0).length ≤ n
      unfold rngD
      rw [List.length_map, List.length_range]
      omega
  obtain ⟨ms, x5, x6, h1, h2, h3, hx⟩ := hloop
  refine ⟨ms, h1, h2, h3, ?_⟩
  show runD (CC (k + 1)) G W d_law_moves [.int c, .int (n : Nat), inL ps] = _
  unfold runD
  have : PV.exec (CC (k + 1)) G W d_law_moves.body (env0 d_law_moves.N [.int c, .int (n : Nat), inL ps]) = some (.rt 1 (mvD ms)) := by
    have e1 : ev (CC (k + 1)) G (.bin .add (.lst (.cons (.bin .add (.var 1) (.int 1)) .nil)) (.bin .mul (.lst (.cons (.blt .len (.var 2)) .nil)) (.bin .mul (.int 2) (.var 1)))) [some (.int c), some (.int (n : Nat)), some (inL ps), none, none, none, none, none] = some (1, inL bs) := by
      have a1 : ev (CC (k + 1)) G (.lst (.cons (.bin .add (.var 1) (.int 1)) .nil)) [some (.int c), some (.int (n : Nat)), some (inL ps), none, none, none, none, none] = some (1, inL [(n : Int) + 1]) := rfl
      have a2 : ev (CC (k + 1)) G (.lst (.cons (.blt .len (.var 2)) .nil)) [some (.int c), some (.int (n : Nat)), some (inL ps), none, none, none, none, none] = some (1, .lst [.int ((ps.map D.int).length : Nat)]) := rfl
      have a3 : ev (CC (k + 1)) G (.bin .mul (.int 2) (.var 1)) [some (.int c), some (.int (n : Nat)), some (inL ps), none, none, none, none, none] = some (0, .int (2 * (n : Int))) := by
        show (if (-(2 ^ 64) < (2 : Int) ∧ (2 : Int) < 2 ^ 64) ∨ (-(2 ^ 64) < (n : Int) ∧ (n : Int) < 2 ^ 64) then some (0, D.int (2 * (n : Int))) else none) = _
        rw [if_pos (.inl (by decide))]
      have a4 : mulD (.lst [.int ((ps.map D.int).length : Nat)]) (.int (2 * (n : Int))) = some (1, inL (List.replicate (2 * n) (ps.length : Int))) := by
        show (if 0 ≤ 2 * (n : Int) ∧ 2 * (n : Int) ≤ (cap : Int) ∧ 1 * (2 * (n : Int)).toNat ≤ cap then some (1, D.lst (List.replicate (2 * (n : Int)).toNat [D.int ((ps.map D.int).length : Nat)]).flatten) else none) = _
        rw [if_pos ⟨by omega, by show _ ≤ (100000 : Int); omega, by show _ ≤ 100000; omega⟩, flat_rep, List.length_map]
        unfold inL
        rw [List.map_replicate, show (2 * (n : Int)).toNat = 2 * n by omega]
      have a5 : ev (CC (k + 1)) G (.bin .mul (.lst (.cons (.blt .len (.var 2)) .nil)) (.bin .mul (.int 2) (.var 1))) [some (.int c), some (.int (n : Nat)), some (inL ps), none, none, none, none, none] = some (1, inL (List.replicate (2 * n) (ps.length : Int))) := by
        rw [ev, a2, a3]
        exact a4
      rw [ev, a1, a5]
      have := add_in (xs := [(n : Int) + 1]) (ys := List.replicate (2 * n) (ps.length : Int)) (by simp; show _ ≤ 100000; omega)
      rw [← hbs]
      exact this
    have e2 : ev (CC (k + 1)) G (.call "_law_numbers" (.cons (.var 0) (.cons (.bin .add (.lst (.cons (.bin .add (.var 1) (.int 1)) .nil)) (.bin .mul (.lst (.cons (.blt .len (.var 2)) .nil)) (.bin .mul (.int 2) (.var 1)))) .nil)) [] .nil) [some (.int c), some (.int (n : Nat)), some (inL ps), none, none, none, none, none] = some (1, inL ds) := by
      rw [ev, evs, evs, evs, e1]
      exact hnum
    refine (ex_nx (ex_set (i := 3) (evS_ns e2 (nosh_in _)))).trans ?_
    refine (ex_nx (ex_set (i := 4) (k := 1) (d := mvD []) (ρ' := [some (0, .int c), some (0, .int (n : Nat)), some (0, inL ps), some (1, inL ds), none, none, none, none]) rfl)).trans ?_
    exact (ex_nx hx).trans rfl
  rw [this]
end K7

set_option Elab.async false
set_option linter.all false
set_option maxRecDepth 100000
set_option maxHeartbeats 4000000
/-! k07, part W: no fewer rows will do. -/
namespace K7
open PySem PySem.Spec PyProof.Rows L2 PV
section
variable {l0 : List (Int × Int)}
theorem lk_in {f : Int → Option Int} {S : Int → Prop} (hS : ∀ x y, S x → f x = some y → S y) : ∀ {r : List Int} {x : Int}, Lk f (x :: r) → S x → ∀ y ∈ x :: r, S y
  | [], x, _, h, y, hy => by
    have : y = x := by simpa using hy
    rw [this]; exact h
  | z :: r, x, lk, h, y, hy => by
    rcases List.mem_cons.mp hy with e | e
    · rw [e]; exact h
    · exact lk_in hS lk.2 (hS x z h lk.1) y e
/-- a set that is closed and meets a ring holds the ring -/
theorem ring_in {S : Int → Prop} (hS : ∀ x y, S x → look l0 x = some y → S y) {g : Int} {t : List Int} (h : Chain l0 g (g :: t)) {x : Int} (hx : x ∈ g :: t) (sx : S x) : ∀ y ∈ g :: t, S y := by
  obtain ⟨lk, u, z, e, h2, _⟩ := chain_lk h
  obtain ⟨a, b, eab⟩ := List.append_of_mem hx
  have hz : S z := by
    rw [eab] at lk e
    refine lk_in hS (lk_right a _ lk) sx z ?_
    cases b with
    | nil =>
      have : x = z := last_eq (u := a) (v := u) (by simpa using e)
      simp [this]
    | cons y b =>
      obtain ⟨v, w, hv⟩ := last_of y b
      have : w = z := last_eq (u := a ++ x :: v) (v := u) (by rw [← e, hv]; simp)
      rw [hv, this]; simp
  exact lk_in hS lk (hS z g hz h2)
structure RsOk (l0 : List (Int × Int)) (seen : List Int) (R : List (List Int)) : Prop where
  ch : ∀ r ∈ R, ∃ g t, r = g :: t ∧ Chain l0 g (g :: t)
  dj : R.Pairwise fun r r' => ∀ x ∈ r, x ∉ r'
  ns : ∀ r ∈ R, ∀ x ∈ r, x ∉ seen
theorem rseq_ok : ∀ {seen : List Int} {todo : List (Int × Int)} {R : List (List Int)}, RSeq l0 seen todo R → (∀ x y, x ∈ seen → look l0 x = some y → y ∈ seen) → RsOk l0 seen R
  | _, _, _, .nil, _ => ⟨(fun _ h => nomatch h), List.Pairwise.nil, (fun _ h => nomatch h)⟩
  | _, _, _, .skip _ h, hs => rseq_ok h hs
  | seen, _, _, .ring (g := g) (t := t) (R := R) h1 h2 h3, hs => by
    have hcl : ∀ x y, x ∈ seen ++ (g :: t) → look l0 x = some y → y ∈ seen ++ (g :: t) := fun x y hx hy => by
      rcases List.mem_append.mp hx with q | q
      · exact List.mem_append_left _ (hs x y q hy)
      · obtain ⟨b, h4, h5⟩ := chain_next h2 x q
        rw [hy] at h4; cases h4
        exact List.mem_append_right _ h5
    obtain ⟨i1, i2, i3⟩ := rseq_ok h3 hcl
    refine ⟨fun r hr => ?_, List.Pairwise.cons (fun r hr x hx hx' => i3 r hr x hx' (List.mem_append_right _ hx)) i2, fun r hr x hx hxs => ?_⟩
    · rcases List.mem_cons.mp hr with e | e
      · exact ⟨g, t, e, h2⟩
      · exact i1 r e
    · rcases List.mem_cons.mp hr with e | e
      · subst e
        exact h1 (ring_in (S := fun x => x ∈ seen) hs h2 hx hxs g (List.mem_cons_self ..))
      · exact i3 r e x hx (List.mem_append_left _ hxs)
theorem rseq_all : ∀ {seen : List Int} {todo : List (Int × Int)} {R : List (List Int)}, RSeq l0 seen todo R → ∀ g s, (g, s) ∈ todo → Per l0 g → g ∈ seen ∨ ∃ r ∈ R, g ∈ r
  | _, _, _, .nil, _, _, h, _ => by cases h
  | _, _, _, .skip h1 h2, g, s, h, hp => by
    rcases List.mem_cons.mp h with e | e
    · cases e
      rcases h1 with q | q
      · exact .inl q
      · exact absurd hp q
    · exact rseq_all h2 g s e hp
  | _, _, _, .ring h1 h2 h3, g, s, h, hp => by
    rcases List.mem_cons.mp h with e | e
    · cases e
      exact .inr ⟨_, List.mem_cons_self .., List.mem_cons_self ..⟩
    · rcases rseq_all h3 g s e hp with q | ⟨r, hr, q⟩
      · rcases List.mem_append.mp q with q | q
        · exact .inl q
        · exact .inr ⟨_, List.mem_cons_self .., q⟩
      · exact .inr ⟨r, List.mem_cons_of_mem _ hr, q⟩
/-! ### exchanges and moves: as many as places that change, but one for each ring -/
/-- classes of places: at most one fewer for each row -/
theorem classes : ∀ (rs : List Rw) (P : List Int), P.Nodup → (∀ r ∈ rs, r.a ∈ P ∧ r.b ∈ P) → ∃ (col : Int → Int) (C : List Int), C.Nodup ∧ P.length ≤ C.length + rs.length ∧ (∀ c ∈ C, ∃ x ∈ P, col x = c) ∧ ∀ x ∈ P, run rs id x ∈ P ∧ col (run rs id x) = col x := by
  intro rs
  -- from the end
  suffices H : ∀ (n : Nat) (rs : List Rw), rs.length = n → ∀ (P : List Int), P.Nodup → (∀ r ∈ rs, r.a ∈ P ∧ r.b ∈ P) → ∃ (col : Int → Int) (C : List Int), C.Nodup ∧ P.length ≤ C.length + rs.length ∧ (∀ c ∈ C, ∃ x ∈ P, col x = c) ∧ ∀ x ∈ P, run rs id x ∈ P ∧ col (run rs id x) = col x from H rs.length rs rfl
  intro n
  induction n with
  | zero =>
    intro rs hn P nd _
    have : rs = [] := List.eq_nil_of_length_eq_zero hn
    subst this
    exact ⟨id, P, nd, by simp, fun c hc => ⟨c, hc, rfl⟩, fun x hx => ⟨hx, rfl⟩⟩
  | succ n ih =>
    intro rs hn P nd hr
    obtain ⟨rs', r, rfl⟩ : ∃ rs' r, rs = rs' ++ [r] := by
      cases rs with
      | nil => cases hn
      | cons x xs => exact ⟨(x :: xs).dropLast, (x :: xs).getLast (List.cons_ne_nil _ _), (List.dropLast_concat_getLast (List.cons_ne_nil _ _)).symm⟩
    rw [List.length_append] at hn
    obtain ⟨col, C, h1, h2, h3, h4⟩ := ih rs' (by simpa using hn) P nd fun q hq => hr q (List.mem_append_left _ hq)
    obtain ⟨ha, hb⟩ := hr r (by simp)
    -- the classes of r.a and r.b become one
    refine ⟨fun x => if col x = col r.b then col r.a else col x, C.filter fun c => decide (c ≠ col r.b ∨ col r.b = col r.a), h1.filter _, ?_, fun c hc => ?_, fun x hx => ?_⟩
    · have : C.length ≤ (C.filter fun c => decide (c ≠ col r.b ∨ col r.b = col r.a)).length + 1 := by
        have hle := ph_le (a := C) (b := col r.b :: C.filter fun c => decide (c ≠ col r.b ∨ col r.b = col r.a)) h1 fun c hc => by
          by_cases e : c = col r.b
          · rw [e]; exact List.mem_cons_self ..
          · exact List.mem_cons_of_mem _ (List.mem_filter.mpr ⟨hc, decide_eq_true (.inl e)⟩)
        simpa using hle
      rw [List.length_append]
      show P.length ≤ _ + (rs'.length + 1)
      omega
    · obtain ⟨h5, h6⟩ := List.mem_filter.mp hc
      obtain ⟨x, hx, ex⟩ := h3 c h5
      refine ⟨x, hx, ?_⟩
      show (if col x = col r.b then col r.a else col x) = c
      rcases of_decide_eq_true h6 with q | q
      · rw [if_neg (by rw [ex]; exact q), ex]
      · by_cases e : col x = col r.b
        · rw [if_pos e, ← q, ← e, ex]
        · rw [if_neg e, ex]
    · have hst : ∀ y ∈ P, run rs' id y ∈ P ∧ col (run rs' id y) = col y := h4
      have main : ∀ y, y ∈ P → ∀ z, z ∈ P → (col z = col y ∨ (col z = col r.b ∧ col y = col r.a) ∨ (col z = col r.a ∧ col y = col r.b)) → (if col z = col r.b then col r.a else col z) = if col y = col r.b then col r.a else col y := fun y _ z _ h => by
        rcases h with q | ⟨q1, q2⟩ | ⟨q1, q2⟩
        · rw [q]
        · rw [if_pos q1]
          split
          · rfl
          · exact q2.symm
        · rw [if_pos q2]
          split
          · rfl
          · exact q1
      have est : run (rs' ++ [r]) id x = step1 (run rs' id) r x := by rw [run_app]; rfl
      rw [est]
      have g0 := hst x hx
      have ga := hst r.a ha
      have gb := hst r.b hb
      unfold step1
      cases hsw : r.sw with
      | false =>
        rw [if_neg Bool.false_ne_true]
        unfold put1
        by_cases e : x = r.a
        · rw [if_pos e]
          exact ⟨gb.1, main x hx _ gb.1 (.inr (.inl ⟨gb.2, by rw [e]⟩))⟩
        · rw [if_neg e]
          exact ⟨g0.1, main x hx _ g0.1 (.inl g0.2)⟩
      | true =>
        rw [if_pos rfl]
        unfold put1
        by_cases e : x = r.b
        · rw [if_pos e]
          exact ⟨ga.1, main x hx _ ga.1 (.inr (.inr ⟨ga.2, by rw [e]⟩))⟩
        · rw [if_neg e]
          by_cases e2 : x = r.a
          · rw [if_pos e2]
            exact ⟨gb.1, main x hx _ gb.1 (.inr (.inl ⟨gb.2, by rw [e2]⟩))⟩
          · rw [if_neg e2]
            exact ⟨g0.1, main x hx _ g0.1 (.inl g0.2)⟩
/-- from any place one comes to one that stays, or into a ring, within its class -/
theorem ends {P : List Int} {col : Int → Int} (hk : ∀ x ∈ keys l0, x ∈ P) (hv : ∀ y ∈ vals l0, y ∈ P) (hcol : ∀ x y, (x, y) ∈ l0 → col y = col x) : ∀ (n : Nat) (u : List Int) (z : Int), (u ++ [z]).Nodup → Lk (look l0) (u ++ [z]) → (∀ y ∈ u ++ [z], y ∈ P) → (∀ y ∈ u ++ [z], col y = col z) → P.length + 1 ≤ (u ++ [z]).length + n → ∃ y ∈ P, col y = col z ∧ (y ∉ keys l0 ∨ Per l0 y)
  | 0, u, z, nd, _, hP, _, hl => by
    have := ph_le nd hP
    omega
  | n + 1, u, z, nd, lk, hP, hc, hl => by
    by_cases hz : z ∈ keys l0
    · obtain ⟨y, hy⟩ := look_key hz
      have hcy : col y = col z := hcol z y (look_mem hy)
      have hyP : y ∈ P := hv y (val_mem (look_mem hy))
      by_cases hm : y ∈ u ++ [z]
      · obtain ⟨a, b, e⟩ := List.append_of_mem hm
        refine ⟨y, hyP, hcy, .inr ⟨b, ?_⟩⟩
        obtain ⟨v, w, hvw⟩ := last_of y b
        have ew : w = z := last_eq (u := a ++ v) (v := u) (by rw [e, hvw]; simp)
        subst ew
        rw [e] at lk nd
        have nd2 := (List.nodup_append.mp nd).2.1
        exact chain_of hvw (lk_right a _ lk) hy (List.nodup_cons.mp nd2).1
      · obtain ⟨w, h1, h2, h3⟩ := ends hk hv hcol n (u ++ [z]) y (by
          rw [List.nodup_append]
          exact ⟨nd, by simp, fun a ha b hb q => hm (by
            have : b = y := by simpa using hb
            rw [← this, ← q]; exact ha)⟩) (lk_append u lk (by simp [Lk]) hy) (fun x hx => by
          rcases List.mem_append.mp hx with q | q
          · exact hP x q
          · have : x = y := by simpa using q
            rw [this]; exact hyP) (fun x hx => by
          rcases List.mem_append.mp hx with q | q
          · rw [hc x q, hcy]
          · have : x = y := by simpa using q
            rw [this]) (by simp at hl ⊢; omega)
        exact ⟨w, h1, h2.trans hcy, h3⟩
    · exact ⟨z, hP z (by simp), rfl, .inl hz⟩
theorem low_swaps {R : List (List Int)} {P : List Int} {rs : List Rw} (nd0 : (keys l0).Nodup) (hR : RSeq l0 [] l0 R) (ndP : P.Nodup) (hk : ∀ x ∈ keys l0, x ∈ P) (hv : ∀ y ∈ vals l0, y ∈ P) (hr : ∀ r ∈ rs, r.a ∈ P ∧ r.b ∈ P) (hg : ∀ x y, (x, y) ∈ l0 → run rs id x = y) : l0.length ≤ rs.length + R.length := by
  obtain ⟨col, C, h1, h2, h3, h4⟩ := classes rs P ndP hr
  have hcol : ∀ x y, (x, y) ∈ l0 → col y = col x := fun x y h => by
    have := (h4 x (hk x (key_mem h))).2
    rwa [hg x y h] at this
  have cov : ∀ c ∈ C, c ∈ (P.filter fun x => decide (x ∉ keys l0)).map col ++ R.map fun r => col (r.headD 0) := fun c hc => by
    obtain ⟨x, hx, rfl⟩ := h3 c hc
    obtain ⟨y, y1, y2, y3⟩ := ends hk hv hcol P.length [] x (by simp) (by simp [Lk]) (fun y hy => by
      have : y = x := by simpa using hy
      rw [this]; exact hx) (fun y hy => by
      have : y = x := by simpa using hy
      rw [this]) (by simp; omega)
    rw [← y2]
    by_cases hyk : y ∈ keys l0
    · have hp : Per l0 y := y3.resolve_left fun z => z hyk
      obtain ⟨s, hs⟩ := mem_key hyk
      rcases rseq_all hR y s hs hp with q | ⟨r, hr, q⟩
      · cases q
      · obtain ⟨g, t, rfl, hc⟩ := (rseq_ok hR (fun _ _ h => nomatch h)).ch r hr
        have := ring_in (S := fun z => col z = col y) (fun a b ha hb => (hcol a b (look_mem hb)).trans ha) hc q rfl g (List.mem_cons_self ..)
        exact List.mem_append_right _ (List.mem_map.mpr ⟨g :: t, hr, this⟩)
    · exact List.mem_append_left _ (List.mem_map_of_mem (List.mem_filter.mpr ⟨y1, decide_eq_true hyk⟩))
  have l1 := ph_le h1 cov
  rw [List.length_append, List.length_map, List.length_map] at l1
  have l2 := ph_le (a := (P.filter fun x => decide (x ∉ keys l0)) ++ keys l0) (b := P) (by
    rw [List.nodup_append]
    exact ⟨ndP.filter _, nd0, fun a ha b hb e => (of_decide_eq_true (List.mem_filter.mp ha).2) (e ▸ hb)⟩) (fun x hx => by
    rcases List.mem_append.mp hx with q | q
    · exact (List.mem_filter.mp q).1
    · exact hk x q)
  rw [List.length_append] at l2
  have l3 : (keys l0).length = l0.length := by simp [keys]
  omega
end
end K7

set_option Elab.async false
set_option linter.all false
set_option maxRecDepth 100000
set_option maxHeartbeats 4000000
/-! k07, part X: no fewer moves will do. -/
namespace K7
open PySem PySem.Spec PyProof.Rows L2 PV
section
variable {l0 : List (Int × Int)} {R : List (List Int)} {ps : List Int}
/-- where a place's worth is to come from -/
def tgt (l0 : List (Int × Int)) (x : Int) : Int := (look l0 x).getD x
theorem tgt_in (nd : (keys l0).Nodup) {x y : Int} (h : (x, y) ∈ l0) : tgt l0 x = y := by
  unfold tgt; rw [look_of nd h]; rfl
theorem tgt_out {x : Int} (h : x ∉ keys l0) : tgt l0 x = x := by
  unfold tgt; rw [look_none.mpr h]; rfl
theorem ring_tgt {g : Int} {t : List Int} (h : Chain l0 g (g :: t)) : (∀ x ∈ g :: t, tgt l0 x ∈ g :: t) ∧ ∀ a ∈ g :: t, ∀ b ∈ g :: t, tgt l0 a = tgt l0 b → a = b := by
  have h1 : ∀ x ∈ g :: t, tgt l0 x ∈ g :: t := fun x hx => by
    obtain ⟨y, h2, h3⟩ := chain_next h x hx
    unfold tgt; rw [h2]; exact h3
  have h2 := ph_eq (a := g :: t) (b := (g :: t).map (tgt l0)) (chain_nodup h) (fun x hx => by
    obtain ⟨a, ha, qa⟩ := chain_prev h x hx
    refine List.mem_map.mpr ⟨a, ha, ?_⟩
    unfold tgt; rw [qa]; rfl) (by rw [List.length_map]; exact Nat.le_refl _)
  exact ⟨h1, nodup_inj h2.1⟩
def wrong (l0 : List (Int × Int)) (ps : List Int) (st : Int → Int) : List Int := ps.filter fun x => decide (st x ≠ tgt l0 x)
def Opn (l0 : List (Int × Int)) (st : Int → Int) (r : List Int) : Prop := pureB l0 r = true ∧ (∀ z, z ∉ r → st z ∉ r) ∧ ∃ x ∈ r, st x ≠ tgt l0 x
noncomputable instance opnDec (l0 : List (Int × Int)) (st : Int → Int) (r : List Int) : Decidable (Opn l0 st r) := Classical.propDecidable _
noncomputable def opens (l0 : List (Int × Int)) (R : List (List Int)) (st : Int → Int) : List (List Int) := R.filter fun r => decide (Opn l0 st r)
theorem open_keep {st : Int → Int} {a b : Int} {g : Int} {t : List Int} (h : Chain l0 g (g :: t)) (ho : Opn l0 st (g :: t)) (hA : a ∈ g :: t ∨ st b ∉ g :: t) : Opn l0 (put1 st a (st b)) (g :: t) := by
  obtain ⟨h1, h2, x0, hx0, hw⟩ := ho
  obtain ⟨t1, t2⟩ := ring_tgt h
  refine ⟨h1, fun z hz => ?_, ?_⟩
  · by_cases e : z = a
    · subst e
      rw [put1_same]
      exact hA.resolve_left hz
    · rw [put1_ne e]; exact h2 z hz
  · refine Classical.byContradiction fun hn => ?_
    have all : ∀ x ∈ g :: t, put1 st a (st b) x = tgt l0 x := fun x hx => Classical.byContradiction fun q => hn ⟨x, hx, q⟩
    have ea : x0 = a := Classical.byContradiction fun q => hw (by rw [← all x0 hx0, put1_ne q])
    subst ea
    have hb : st b = tgt l0 x0 := by rw [← all x0 hx0, put1_same]
    have hbr : b ∈ g :: t := Classical.byContradiction fun q => h2 b q (by rw [hb]; exact t1 x0 hx0)
    by_cases e : b = x0
    · subst e; exact hw hb
    · have := all b hbr
      rw [put1_ne e, hb] at this
      exact e (t2 b hbr x0 hx0 this.symm)
theorem dj_of : ∀ {R : List (List Int)}, (R.Pairwise fun r r' => ∀ x ∈ r, x ∉ r') → ∀ a ∈ R, ∀ b ∈ R, a ≠ b → ∀ x ∈ a, x ∉ b
  | [], _, a, ha, _, _, _, _, _ => by cases ha
  | r :: R, h, a, ha, b, hb, hne, x, hx => by
    cases h with
    | cons h1 h2 =>
      rcases List.mem_cons.mp ha with ea | ea <;> rcases List.mem_cons.mp hb with eb | eb
      · exact absurd (ea.trans eb.symm) hne
      · rw [ea] at hx; exact h1 b eb x hx
      · intro z
        rw [eb] at z
        exact h1 a ea x z hx
      · exact dj_of h2 a ea b eb hne x hx
theorem pot_step (nd0 : (keys l0).Nodup) (ndP : ps.Nodup) (hR : RSeq l0 [] l0 R) (st : Int → Int) (r : Rw) (hr : r.sw = false) : (wrong l0 ps st).length + (opens l0 R st).length ≤ (wrong l0 ps (step1 st r)).length + (opens l0 R (step1 st r)).length + 1 := by
  have ok := rseq_ok hR (fun _ _ h => nomatch h)
  have est : step1 st r = put1 st r.a (st r.b) := by unfold step1; rw [hr]; rfl
  rw [est]
  have ndR : R.Nodup := by
    refine ok.dj.imp_of_mem ?_
    intro x y hx _ h e
    obtain ⟨g, t, e2, _⟩ := ok.ch x hx
    exact h g (by rw [e2]; exact List.mem_cons_self ..) (by rw [← e, e2]; exact List.mem_cons_self ..)
  have wsub : ∀ x ∈ wrong l0 ps st, x = r.a ∨ x ∈ wrong l0 ps (put1 st r.a (st r.b)) := fun x hx => by
    obtain ⟨h1, h2⟩ := List.mem_filter.mp hx
    by_cases e : x = r.a
    · exact .inl e
    · refine .inr (List.mem_filter.mpr ⟨h1, ?_⟩)
      rw [put1_ne e]; exact h2
  by_cases hc : ∃ r0 ∈ opens l0 R st, st r.b ∈ r0 ∧ r.a ∉ r0
  · obtain ⟨r0, h1, h2, h3⟩ := hc
    obtain ⟨hm, ho⟩ := List.mem_filter.mp h1
    have ho := of_decide_eq_true ho
    have osub : ∀ q ∈ opens l0 R st, q ∈ r0 :: opens l0 R (put1 st r.a (st r.b)) := fun q hq => by
      obtain ⟨hqm, hqo⟩ := List.mem_filter.mp hq
      have hqo := of_decide_eq_true hqo
      by_cases e : q = r0
      · rw [e]; exact List.mem_cons_self ..
      · refine List.mem_cons_of_mem _ (List.mem_filter.mpr ⟨hqm, decide_eq_true ?_⟩)
        obtain ⟨g, t, e2, hch⟩ := ok.ch q hqm
        subst e2
        refine open_keep hch hqo (.inr fun z => ?_)
        exact dj_of ok.dj _ hqm _ hm e (st r.b) z h2
    have l1 := ph_le (ndR.filter _) osub
    have hfa : tgt l0 r.a ∉ r0 := by
      by_cases hk : r.a ∈ keys l0
      · obtain ⟨y, hy⟩ := mem_key hk
        rw [tgt_in nd0 hy]
        intro hyr
        have hp := ho.1
        unfold pureB at hp
        rw [List.isEmpty_iff, List.filter_eq_nil_iff] at hp
        refine hp (r.a, y) hy ?_
        rw [Bool.and_eq_true]
        exact ⟨decide_eq_true hyr, decide_eq_true h3⟩
      · rw [tgt_out hk]; exact h3
    have l2 : (wrong l0 ps st).length ≤ (wrong l0 ps (put1 st r.a (st r.b))).length := by
      refine ph_le (ndP.filter _) fun x hx => ?_
      rcases wsub x hx with e | e
      · refine List.mem_filter.mpr ⟨(List.mem_filter.mp hx).1, decide_eq_true ?_⟩
        rw [e, put1_same]
        exact fun q => hfa (by rw [← q]; exact h2)
      · exact e
    unfold opens at l1 ⊢
    rw [List.length_cons] at l1
    omega
  · have osub : ∀ q ∈ opens l0 R st, q ∈ opens l0 R (put1 st r.a (st r.b)) := fun q hq => by
      obtain ⟨hqm, hqo⟩ := List.mem_filter.mp hq
      have hqo := of_decide_eq_true hqo
      obtain ⟨g, t, e2, hch⟩ := ok.ch q hqm
      refine List.mem_filter.mpr ⟨hqm, decide_eq_true ?_⟩
      have hA : r.a ∈ q ∨ st r.b ∉ q := Classical.byContradiction fun z => hc ⟨q, hq, Classical.byContradiction fun w => z (.inr w), fun w => z (.inl w)⟩
      subst e2
      exact open_keep hch hqo hA
    have l1 := ph_le (ndR.filter _) osub
    have l2 := ph_le (a := wrong l0 ps st) (b := r.a :: wrong l0 ps (put1 st r.a (st r.b))) (ndP.filter _) fun x hx => by
      rcases wsub x hx with e | e
      · rw [e]; exact List.mem_cons_self ..
      · exact List.mem_cons_of_mem _ e
    rw [List.length_cons] at l2
    unfold opens at l1 ⊢
    omega
theorem pot_run (nd0 : (keys l0).Nodup) (ndP : ps.Nodup) (hR : RSeq l0 [] l0 R) : ∀ (rs : List Rw) (st : Int → Int), (∀ r ∈ rs, r.sw = false) → (wrong l0 ps st).length + (opens l0 R st).length ≤ (wrong l0 ps (run rs st)).length + (opens l0 R (run rs st)).length + rs.length
  | [], st, _ => Nat.le_refl _
  | r :: rs, st, h => by
    have h1 := pot_step nd0 ndP hR st r (h r (List.mem_cons_self ..))
    have h2 := pot_run nd0 ndP hR rs (step1 st r) fun q hq => h q (List.mem_cons_of_mem _ hq)
    have e : run (r :: rs) st = run rs (step1 st r) := rfl
    rw [e, List.length_cons]
    omega
theorem low_moves {rs : List Rw} (nd0 : (keys l0).Nodup) (hne : ∀ x y, (x, y) ∈ l0 → x ≠ y) (ndP : ps.Nodup) (hR : RSeq l0 [] l0 R) (hk : ∀ x ∈ keys l0, x ∈ ps) (hsw : ∀ r ∈ rs, r.sw = false) (hg : ∀ x y, (x, y) ∈ l0 → run rs id x = y) (hs : ∀ x ∈ ps, x ∉ keys l0 → run rs id x = x) : l0.length + pureC l0 R ≤ rs.length := by
  have ok := rseq_ok hR (fun _ _ h => nomatch h)
  have h1 := pot_run nd0 ndP hR rs id hsw
  have fin : ∀ x ∈ ps, run rs id x = tgt l0 x := fun x hx => by
    by_cases h : x ∈ keys l0
    · obtain ⟨y, hy⟩ := mem_key h
      rw [tgt_in nd0 hy, hg x y hy]
    · rw [tgt_out h, hs x hx h]
  have rin : ∀ r ∈ R, ∀ x ∈ r, x ∈ ps ∧ ∃ y, (x, y) ∈ l0 := fun r hr x hx => by
    obtain ⟨g, t, rfl, hc⟩ := ok.ch r hr
    obtain ⟨y, h2, _⟩ := chain_next hc x hx
    exact ⟨hk x (key_mem (look_mem h2)), y, look_mem h2⟩
  have w0 : wrong l0 ps (run rs id) = [] := by
    unfold wrong
    rw [List.filter_eq_nil_iff]
    exact fun x hx z => of_decide_eq_true z (fin x hx)
  have o0 : opens l0 R (run rs id) = [] := by
    unfold opens
    rw [List.filter_eq_nil_iff]
    intro r hr z
    obtain ⟨_, _, x, hx, hw⟩ := of_decide_eq_true z
    exact hw (fin x (rin r hr x hx).1)
  have w1 : l0.length ≤ (wrong l0 ps id).length := by
    have := ph_le (a := keys l0) (b := wrong l0 ps id) nd0 fun x hx => by
      obtain ⟨y, hy⟩ := mem_key hx
      refine List.mem_filter.mpr ⟨hk x hx, decide_eq_true ?_⟩
      rw [tgt_in nd0 hy]
      exact hne x y hy
    rwa [show (keys l0).length = l0.length by simp [keys]] at this
  have o1 : pureC l0 R ≤ (opens l0 R id).length := by
    unfold pureC
    have ndR : R.Nodup := by
      refine ok.dj.imp_of_mem ?_
      intro x y hx _ h e
      obtain ⟨g, t, e2, _⟩ := ok.ch x hx
      exact h g (by rw [e2]; exact List.mem_cons_self ..) (by rw [← e, e2]; exact List.mem_cons_self ..)
    refine ph_le (ndR.filter _) fun r hr => ?_
    obtain ⟨h2, h3⟩ := List.mem_filter.mp hr
    refine List.mem_filter.mpr ⟨h2, decide_eq_true ⟨h3, fun z hz => hz, ?_⟩⟩
    obtain ⟨g, t, e, hc⟩ := ok.ch r h2
    obtain ⟨_, y, hy⟩ := rin r h2 g (by rw [e]; exact List.mem_cons_self ..)
    refine ⟨g, by rw [e]; exact List.mem_cons_self .., ?_⟩
    rw [tgt_in nd0 hy]
    exact hne g y hy
  rw [w0, o0] at h1
  simp at h1
  omega
end
end K7

set_option Elab.async false
set_option linter.all false
set_option maxRecDepth 100000
set_option maxHeartbeats 4000000
/-! k07, part Y: _law_steps. -/
namespace K7
open PySem PySem.Spec PyProof.Rows L2 PV
def tupI (h : List Int) : D := .tup (h.map D.int)
def hsL (S : List (List Int)) : D := .lst (S.map tupI)
theorem imms_in (h : List Int) : imms (h.map D.int) = true := by
  induction h with
  | nil => rfl
  | cons x h ih =>
    show (imm (.int x) && imms (h.map D.int)) = true
    rw [ih]; rfl
theorem imm_tup (h : List Int) : imm (tupI h) = true := imms_in h
theorem nosh_hs (S : List (List Int)) : nosh 1 (hsL S) = true := imms_map tupI imm_tup S
def stepRow (h : List Int) (sw : Bool) (i j : Nat) : List (List Int) := if i = j then [] else [h.set i (h.getD j 0)] ++ (if (sw && decide (i < j)) = true then [(h.set i (h.getD j 0)).set j (h.getD i 0)] else [])
def stepsF (h : List Int) (sw : Bool) : List (List Int) := (List.range h.length).flatMap fun i => (List.range h.length).flatMap (stepRow h sw i)
abbrev envT5 (h : List Int) (sw : Bool) (S : List (List Int)) (x3 x4 x5 : Option (Nat × D)) : PV.Env := [some (0, tupI h), some (0, .bl sw), some (1, hsL S), x3, x4, x5]
def inB : Sta := (.cons (.ite (.cmp .ne (.var 3) (.var 4)) (.cons (.app 2 (.bin .add (.bin .add (.slc (.var 0) .nil (.itr (.var 3))) (.tup (.cons (.idx (.var 0) (.var 4)) .nil))) (.slc (.var 0) (.itr (.bin .add (.var 3) (.int 1))) .nil)))
    (.cons (.ite (.and_ (.var 1) (.cmp .lt (.var 3) (.var 4))) (.cons (.set 5 (.blt .list (.var 0)))
    (.cons (.seti 5 (.var 3) (.idx (.var 0) (.var 4)))
    (.cons (.seti 5 (.var 4) (.idx (.var 0) (.var 3)))
    (.cons (.app 2 (.blt .tuple (.var 5)))
    .nil)))) .nil)
    .nil)) .nil)
    .nil)
theorem idx_tup {h : List Int} {i : Nat} (hi : i < h.length) : idxD (tupI h) (.int (i : Nat)) = some (.int (h.getD i 0)) := by
  show atI (h.map D.int) (i : Nat) = _
  refine atI_nat ?_
  rw [List.getElem?_map, List.getElem?_eq_getElem hi, List.getD_eq_getElem?_getD, List.getElem?_eq_getElem hi]; rfl
theorem app_hs {k : Nat} {h : List Int} {sw : Bool} {S : List (List Int)} {x3 x4 x5 : Option (Nat × D)} {e : Exp} {g : List Int} (he : ev (CC k) G e (expose (fv e) 0 (envT5 h sw S x3 x4 x5)) = some (0, tupI g)) (hl : S.length < cap) : PV.exec (CC k) G W (.app 2 e) (envT5 h sw S x3 x4 x5) = some (.nx (envT5 h sw (S ++ [g]) x3 x4 x5)) := by
  have e1 : hsL (S ++ [g]) = .lst (S.map tupI ++ [tupI g]) := by simp [hsL]
  refine (ex_app (i := 2) rfl (evS_ns he (imm_tup g)) rfl (by rw [List.length_map]; exact hl)).trans ?_
  unfold envT5
  rw [e1]
  rfl
theorem in_step (k : Nat) {h : List Int} {sw : Bool} {S : List (List Int)} {x5 : Option (Nat × D)} {i j : Nat} (hh : h.length ≤ 100) (hi : i < h.length) (hj : j < h.length) (hl : S.length + 2 ≤ cap) : ∃ y5, PV.exec (CC k) G W inB (envT5 h sw S (some (0, .int (i : Nat))) (some (0, .int (j : Nat))) x5) = some (.nx (envT5 h sw (S ++ stepRow h sw i j) (some (0, .int (i : Nat))) (some (0, .int (j : Nat))) y5)) := by
  have hcmp : evB (CC k) G (.cmp .ne (.var 3) (.var 4)) (envT5 h sw S (some (0, .int (i : Nat))) (some (0, .int (j : Nat))) x5) = some (!decide (i = j)) := by
    refine evB_of (k := 0) ?_
    have g3 := exp_get (m := fv (.cmp .ne (.var 3) (.var 4))) (i := 0) (j := 3) (ρ := envT5 h sw S (some (0, .int (i : Nat))) (some (0, .int (j : Nat))) x5) rfl (.inl rfl)
    have g4 := exp_get (m := fv (.cmp .ne (.var 3) (.var 4))) (i := 0) (j := 4) (ρ := envT5 h sw S (some (0, .int (i : Nat))) (some (0, .int (j : Nat))) x5) rfl (.inl rfl)
    simp only [ev, g3, g4, cmpD, eqd_int]
    show some (0, D.bl (!((i : Int) == (j : Int)))) = _
    congr 3
    by_cases e : i = j
    · simp [e]
    · have : (i : Int) ≠ j := fun z => e (by omega)
      simp [e, this]
  unfold stepRow
  by_cases e : i = j
  · rw [if_pos e, List.append_nil]
    rw [decide_eq_true e] at hcmp
    exact ⟨x5, (ex_nx ((ex_false hcmp).trans rfl)).trans rfl⟩
  · rw [if_neg e]
    rw [decide_eq_false e] at hcmp
    -- the move
    have a1 : PV.exec (CC k) G W (.app 2 (.bin .add (.bin .add (.slc (.var 0) .nil (.itr (.var 3))) (.tup (.cons (.idx (.var 0) (.var 4)) .nil))) (.slc (.var 0) (.itr (.bin .add (.var 3) (.int 1))) .nil))) (envT5 h sw S (some (0, .int (i : Nat))) (some (0, .int (j : Nat))) x5) = some (.nx (envT5 h sw (S ++ [h.set i (h.getD j 0)]) (some (0, .int (i : Nat))) (some (0, .int (j : Nat))) x5)) := by
      refine app_hs ?_ (by omega)
      have g0 := exp_get (m := fv (.bin .add (.bin .add (.slc (.var 0) .nil (.itr (.var 3))) (.tup (.cons (.idx (.var 0) (.var 4)) .nil))) (.slc (.var 0) (.itr (.bin .add (.var 3) (.int 1))) .nil))) (i := 0) (j := 0) (ρ := envT5 h sw S (some (0, .int (i : Nat))) (some (0, .int (j : Nat))) x5) rfl (.inl rfl)
      have g3 := exp_get (m := fv (.bin .add (.bin .add (.slc (.var 0) .nil (.itr (.var 3))) (.tup (.cons (.idx (.var 0) (.var 4)) .nil))) (.slc (.var 0) (.itr (.bin .add (.var 3) (.int 1))) .nil))) (i := 0) (j := 3) (ρ := envT5 h sw S (some (0, .int (i : Nat))) (some (0, .int (j : Nat))) x5) rfl (.inl rfl)
      have g4 := exp_get (m := fv (.bin .add (.bin .add (.slc (.var 0) .nil (.itr (.var 3))) (.tup (.cons (.idx (.var 0) (.var 4)) .nil))) (.slc (.var 0) (.itr (.bin .add (.var 3) (.int 1))) .nil))) (i := 0) (j := 4) (ρ := envT5 h sw S (some (0, .int (i : Nat))) (some (0, .int (j : Nat))) x5) rfl (.inl rfl)
      have s1 : slcD (tupI h) none (some ((i : Nat) : Int)) = some (0, tupI (h.take i)) := by
        show some (0, D.tup (cutL (h.map D.int) none (some (i : Int)))) = _
        rw [cut_take, ← List.map_take]; rfl
      have s2 : slcD (tupI h) (some (((i : Nat) : Int) + 1)) none = some (0, tupI (h.drop (i + 1))) := by
        show some (0, D.tup (cutL (h.map D.int) (some ((i : Int) + 1)) none)) = _
        rw [show ((i : Int) + 1) = ((i + 1 : Nat) : Int) by omega, cut_drop, ← List.map_drop]; rfl
      have ad : ∀ a b : List Int, a.length + b.length ≤ cap → addD (tupI a) (tupI b) = some (0, tupI (a ++ b)) := fun a b hab => by
        show (if (a.map D.int).length + (b.map D.int).length ≤ cap then some (0, D.tup (a.map D.int ++ b.map D.int)) else none) = _
        rw [if_pos (by rw [List.length_map, List.length_map]; exact hab), ← List.map_append]; rfl
      have hset : h.set i (h.getD j 0) = h.take i ++ [h.getD j 0] ++ h.drop (i + 1) := by
        rw [List.set_eq_take_append_cons_drop, if_pos hi]; simp
      have t1 : ev (CC k) G (.tup (.cons (.idx (.var 0) (.var 4)) .nil)) (expose (fv (.bin .add (.bin .add (.slc (.var 0) .nil (.itr (.var 3))) (.tup (.cons (.idx (.var 0) (.var 4)) .nil))) (.slc (.var 0) (.itr (.bin .add (.var 3) (.int 1))) .nil))) 0 (envT5 h sw S (some (0, .int (i : Nat))) (some (0, .int (j : Nat))) x5)) = some (0, tupI [h.getD j 0]) := by
        simp only [ev, evs, g0, g4, idx_tup hj, Option.map_some]
        rfl
      have t2 : ev (CC k) G (.slc (.var 0) .nil (.itr (.var 3))) (expose (fv (.bin .add (.bin .add (.slc (.var 0) .nil (.itr (.var 3))) (.tup (.cons (.idx (.var 0) (.var 4)) .nil))) (.slc (.var 0) (.itr (.bin .add (.var 3) (.int 1))) .nil))) 0 (envT5 h sw S (some (0, .int (i : Nat))) (some (0, .int (j : Nat))) x5)) = some (0, tupI (h.take i)) := by
        simp only [ev, evO, g0, g3, s1]
      have t3 : ev (CC k) G (.slc (.var 0) (.itr (.bin .add (.var 3) (.int 1))) .nil) (expose (fv (.bin .add (.bin .add (.slc (.var 0) .nil (.itr (.var 3))) (.tup (.cons (.idx (.var 0) (.var 4)) .nil))) (.slc (.var 0) (.itr (.bin .add (.var 3) (.int 1))) .nil))) 0 (envT5 h sw S (some (0, .int (i : Nat))) (some (0, .int (j : Nat))) x5)) = some (0, tupI (h.drop (i + 1))) := by
        simp only [ev, evO, g0, g3, add_c, s2]
      have t4 : ev (CC k) G (.bin .add (.slc (.var 0) .nil (.itr (.var 3))) (.tup (.cons (.idx (.var 0) (.var 4)) .nil))) (expose (fv (.bin .add (.bin .add (.slc (.var 0) .nil (.itr (.var 3))) (.tup (.cons (.idx (.var 0) (.var 4)) .nil))) (.slc (.var 0) (.itr (.bin .add (.var 3) (.int 1))) .nil))) 0 (envT5 h sw S (some (0, .int (i : Nat))) (some (0, .int (j : Nat))) x5)) = some (0, tupI (h.take i ++ [h.getD j 0])) := by
        rw [ev, t2, t1]
        exact ad _ _ (by rw [List.length_take]; show _ ≤ 100000; simp; omega)
      rw [ev, t4, t3, hset]
      exact ad _ _ (by rw [List.length_append, List.length_take, List.length_drop]; show _ ≤ 100000; simp; omega)
    have hand : evB (CC k) G (.and_ (.var 1) (.cmp .lt (.var 3) (.var 4))) (envT5 h sw (S ++ [h.set i (h.getD j 0)]) (some (0, .int (i : Nat))) (some (0, .int (j : Nat))) x5) = some (sw && decide (i < j)) := by
      refine evB_of (k := 0) ?_
      have g1 := exp_get (m := fv (.and_ (.var 1) (.cmp .lt (.var 3) (.var 4)))) (i := 0) (j := 1) (ρ := envT5 h sw (S ++ [h.set i (h.getD j 0)]) (some (0, .int (i : Nat))) (some (0, .int (j : Nat))) x5) rfl (.inl rfl)
      have g3 := exp_get (m := fv (.and_ (.var 1) (.cmp .lt (.var 3) (.var 4)))) (i := 0) (j := 3) (ρ := envT5 h sw (S ++ [h.set i (h.getD j 0)]) (some (0, .int (i : Nat))) (some (0, .int (j : Nat))) x5) rfl (.inl rfl)
      have g4 := exp_get (m := fv (.and_ (.var 1) (.cmp .lt (.var 3) (.var 4)))) (i := 0) (j := 4) (ρ := envT5 h sw (S ++ [h.set i (h.getD j 0)]) (some (0, .int (i : Nat))) (some (0, .int (j : Nat))) x5) rfl (.inl rfl)
      simp only [ev, g1, g3, g4, cmpD]
      have : decide ((i : Int) < (j : Int)) = decide (i < j) := decide_eq_decide.mpr (by omega)
      cases sw with
      | false => rfl
      | true => simp [this]
    cases hsw : (sw && decide (i < j)) with
    | false =>
      rw [hsw] at hand
      rw [if_neg Bool.false_ne_true, List.append_nil]
      exact ⟨x5, (ex_nx ((ex_true hcmp).trans ((ex_nx a1).trans ((ex_nx ((ex_false hand).trans rfl)).trans rfl)))).trans rfl⟩
    | true =>
      rw [hsw] at hand
      rw [if_pos rfl, ← List.append_assoc]
      generalize hS1 : S ++ [h.set i (h.getD j 0)] = S1 at *
      have s5 : PV.exec (CC k) G W (.set 5 (.blt .list (.var 0))) (envT5 h sw S1 (some (0, .int (i : Nat))) (some (0, .int (j : Nat))) x5) = some (.nx (envT5 h sw S1 (some (0, .int (i : Nat))) (some (0, .int (j : Nat))) (some (1, inL h)))) := by
        refine ex_set (i := 5) (evS_ns (k := 1) (d := inL h) ?_ (nosh_in _))
        have g0 := exp_get (m := fv (.blt .list (.var 0))) (i := 0) (j := 0) (ρ := envT5 h sw S1 (some (0, .int (i : Nat))) (some (0, .int (j : Nat))) x5) rfl (.inl rfl)
        simp only [ev, g0]
        rfl
      have sp : ∀ (l : List Int) (a b : Nat) (ia ib : Nat), l.length = h.length → (envT5 h sw S1 (some (0, .int (i : Nat))) (some (0, .int (j : Nat))) (some (1, inL l)))[ia]? = some (some (0, .int (a : Nat))) → (envT5 h sw S1 (some (0, .int (i : Nat))) (some (0, .int (j : Nat))) (some (1, inL l)))[ib]? = some (some (0, .int (b : Nat))) → a < h.length → b < h.length →
          PV.exec (CC k) G W (.seti 5 (.var ia) (.idx (.var 0) (.var ib))) (envT5 h sw S1 (some (0, .int (i : Nat))) (some (0, .int (j : Nat))) (some (1, inL l))) = some (.nx (envT5 h sw S1 (some (0, .int (i : Nat))) (some (0, .int (j : Nat))) (some (1, inL (l.set a (h.getD b 0)))))) := by
        intro l a b ia ib hl2 hia hib ha hb
        refine ex_seti (k := 0) (d := .int (h.getD b 0)) (k2 := 0) (y := .int (a : Nat)) (d0 := inL l) (d' := inL (l.set a (h.getD b 0))) (evS_ns ?_ rfl) (evS_ns ?_ rfl) rfl ?_
        · have g0 := exp_get (m := fv (.idx (.var 0) (.var ib))) (i := 0) (j := 0) (ρ := envT5 h sw S1 (some (0, .int (i : Nat))) (some (0, .int (j : Nat))) (some (1, inL l))) rfl (.inl rfl)
          simp only [ev, g0, exp_get (m := fv (.idx (.var 0) (.var ib))) (i := 0) hib (.inl rfl), idx_tup hb]
          rfl
        · simp only [ev, exp_get (m := fv (.var ia)) (i := 0) hia (.inl rfl)]
        · show (match ixN (l.map D.int).length (a : Nat) with
            | some j => some (D.lst ((l.map D.int).set j (.int (h.getD b 0))))
            | none => none) = _
          have : ixN (l.map D.int).length ((a : Nat) : Int) = some a := by
            unfold ixN
            rw [List.length_map, hl2, if_pos (by omega), if_pos (by omega)]
            simp
          rw [this]
          show some (D.lst ((l.map D.int).set a (.int (h.getD b 0)))) = some (D.lst ((l.set a (h.getD b 0)).map D.int))
          rw [List.map_set]
      refine ⟨some (1, inL ((h.set i (h.getD j 0)).set j (h.getD i 0))), (ex_nx ((ex_true hcmp).trans ((ex_nx a1).trans ((ex_nx ((ex_true hand).trans ((ex_nx s5).trans ((ex_nx (sp h i j 3 4 rfl rfl rfl hi hj)).trans ((ex_nx (sp (h.set i (h.getD j 0)) j i 4 3 (List.length_set ..) rfl rfl hj hi)).trans ((ex_nx (app_hs ?_ ?_)).trans rfl)))))).trans rfl)))).trans rfl⟩
      · have g5 := exp_get (m := fv (.blt .tuple (.var 5))) (i := 0) (j := 5) (ρ := envT5 h sw S1 (some (0, .int (i : Nat))) (some (0, .int (j : Nat))) (some (1, inL ((h.set i (h.getD j 0)).set j (h.getD i 0))))) rfl (.inr (by decide))
        simp only [ev, g5]
        rfl
      · rw [← hS1, List.length_append]; show S.length + 1 < cap; omega
theorem row_len (h : List Int) (sw : Bool) (i j : Nat) : (stepRow h sw i j).length ≤ 2 := by
  unfold stepRow
  split
  · simp
  · split <;> simp
theorem flat_len (h : List Int) (sw : Bool) (i : Nat) : ∀ a : List Nat, (a.flatMap (stepRow h sw i)).length ≤ 2 * a.length
  | [] => by simp
  | j :: a => by
    rw [List.flatMap_cons, List.length_append]
    have := row_len h sw i j
    have := flat_len h sw i a
    rw [List.length_cons]
    omega
theorem flat_len2 (h : List Int) (sw : Bool) (b : List Nat) : ∀ a : List Nat, (a.flatMap fun i => b.flatMap (stepRow h sw i)).length ≤ 2 * b.length * a.length
  | [] => by simp
  | j :: a => by
    rw [List.flatMap_cons, List.length_append]
    have := flat_len h sw j b
    have := flat_len2 h sw b a
    rw [List.length_cons, Nat.mul_succ]
    omega
theorem range_ev (k : Nat) {h : List Int} {ρ : Ro} (h0 : ρ[0]? = some (some (tupI h))) (hh : h.length ≤ 100) : evI (CC k) G (.rng (.blt .len (.var 0))) ρ = some ((List.range h.length).map fun i => D.int (i : Nat)) := by
  have hb : bltD .len (tupI h) = some (0, .int (h.length : Nat)) := by
    show some (0, D.int ((h.map D.int).length : Nat)) = _
    rw [List.length_map]
  simp only [evI, ev, h0, hb]
  rw [if_pos ⟨by show (h.length : Int) ≤ 100000; omega, by omega⟩]
  unfold rngD
  simp
theorem steps_ok (k : Nat) (h : List Int) (sw : Bool) (hh : h.length ≤ 100) : CC (k + 1) "_law_steps" [tupI h, .bl sw] [] [] = some (1, hsL (stepsF h sw)) := by
  show runD (CC k) G W d_law_steps [tupI h, .bl sw] = _
  unfold runD
  have : PV.exec (CC k) G W d_law_steps.body (env0 d_law_steps.N [tupI h, .bl sw]) = some (.rt 1 (hsL (stepsF h sw))) := by
    refine (ex_nx (ρ' := envT5 h sw [] none none none) rfl).trans ?_
    have outer : ∃ x3 x4 x5, PV.exec (CC k) G W (.for_ (.one 3) (.rng (.blt .len (.var 0))) (.cons (.for_ (.one 4) (.rng (.blt .len (.var 0))) inB) .nil)) (envT5 h sw [] none none none) = some (.nx (envT5 h sw (stepsF h sw) x3 x4 x5)) := by
      rw [ex_for (ds := (List.range h.length).map fun i => D.int (i : Nat)) rfl (range_ev k rfl hh)]
      refine for_rule (tg := .one 3) (f := fun e => PV.exec (CC k) G W (.cons (.for_ (.one 4) (.rng (.blt .len (.var 0))) inB) .nil) e) (P := fun o => ∃ x3 x4 x5, o = some (.nx (envT5 h sw (stepsF h sw) x3 x4 x5))) (fun ds ρ => ∃ a b x3 x4 x5, List.range h.length = a ++ b ∧ ds = b.map (fun i => D.int (i : Nat)) ∧ ρ = envT5 h sw (a.flatMap fun i => (List.range h.length).flatMap (stepRow h sw i)) x3 x4 x5) ?_ ?_ _ _ ⟨[], _, none, none, none, rfl, rfl, rfl⟩
      · rintro ρ ⟨a, b, x3, x4, x5, e1, e2, rfl⟩
        cases b with
        | nil => rw [List.append_nil] at e1; exact ⟨x3, x4, x5, by unfold stepsF; rw [← e1]⟩
        | cons i b => cases e2
      · rintro d ds ρ ⟨a, b, x3, x4, x5, e1, e2, rfl⟩
        cases b with
        | nil => cases e2
        | cons i b =>
          cases e2
          have hi : i < h.length := List.mem_range.mp (by rw [e1]; simp)
          have hal : a.length ≤ 100 := by
            have := congrArg List.length e1
            rw [List.length_range, List.length_append] at this
            omega
          have hS := flat_len2 h sw (List.range h.length) a
          rw [List.length_range] at hS
          have hS2 : (a.flatMap fun i => (List.range h.length).flatMap (stepRow h sw i)).length ≤ 20000 := Nat.le_trans hS (by
            calc 2 * h.length * a.length ≤ 200 * 100 := Nat.mul_le_mul (by omega) hal
              _ = 20000 := rfl)
          generalize hSa : (a.flatMap fun i => (List.range h.length).flatMap (stepRow h sw i)) = Sa at *
          have inner : ∃ y4 y5, PV.exec (CC k) G W (.for_ (.one 4) (.rng (.blt .len (.var 0))) inB) (envT5 h sw Sa (some (0, .int (i : Nat))) x4 x5) = some (.nx (envT5 h sw (Sa ++ (List.range h.length).flatMap (stepRow h sw i)) (some (0, .int (i : Nat))) y4 y5)) := by
            have hfz : freeze (fv (.rng (.blt .len (.var 0)))) 0 (envT5 h sw Sa (some (0, .int (i : Nat))) x4 x5) = envT5 h sw Sa (some (0, .int (i : Nat))) x4 x5 := by
              cases x4 <;> cases x5 <;> rfl
            rw [ex_for (ds := (List.range h.length).map fun i => D.int (i : Nat)) rfl (range_ev k (exp_get (k := 0) rfl (.inl rfl)) hh), hfz]
            refine for_rule (tg := .one 4) (f := fun e => PV.exec (CC k) G W inB e) (P := fun o => ∃ y4 y5, o = some (.nx (envT5 h sw (Sa ++ (List.range h.length).flatMap (stepRow h sw i)) (some (0, .int (i : Nat))) y4 y5))) (fun ds ρ => ∃ c d x4 x5, List.range h.length = c ++ d ∧ ds = d.map (fun i => D.int (i : Nat)) ∧ ρ = envT5 h sw (Sa ++ c.flatMap (stepRow h sw i)) (some (0, .int (i : Nat))) x4 x5) ?_ ?_ _ _ ⟨[], _, x4, x5, rfl, rfl, by simp⟩
            · rintro ρ ⟨c, d, x4, x5, e1, e2, rfl⟩
              cases d with
              | nil => rw [List.append_nil] at e1; exact ⟨x4, x5, by rw [← e1]⟩
              | cons i b => cases e2
            · rintro d ds ρ ⟨c, d, x4, x5, e1, e2, rfl⟩
              cases d with
              | nil => cases e2
              | cons j d =>
                cases e2
                have hj : j < h.length := List.mem_range.mp (by rw [e1]; simp)
                have hc := flat_len h sw i c
                have hcl : c.length ≤ 100 := by
                  have := congrArg List.length e1
                  rw [List.length_range, List.length_append] at this
                  omega
                obtain ⟨y5, hx⟩ := in_step k (sw := sw) (S := Sa ++ c.flatMap (stepRow h sw i)) (x5 := x5) hh hi hj (by rw [List.length_append]; show _ ≤ 100000; omega)
                exact ⟨_, rfl, .inl ⟨_, hx, c ++ [j], d, some (0, .int (j : Nat)), y5, by rw [e1]; simp, rfl, by simp⟩⟩
          obtain ⟨y4, y5, hin⟩ := inner
          exact ⟨_, rfl, .inl ⟨_, (ex_nx hin).trans rfl, a ++ [i], b, some (0, .int (i : Nat)), y4, y5, by rw [e1]; simp, rfl, by rw [List.flatMap_append, hSa]; simp⟩⟩
    obtain ⟨x3, x4, x5, ho⟩ := outer
    exact (ex_nx ho).trans rfl
  rw [this]
end K7

set_option Elab.async false
set_option linter.all false
set_option maxRecDepth 100000
set_option maxHeartbeats 4000000
/-! k07, part Za: steps are rows; what is reached. -/
namespace K7
open PySem PySem.Spec PyProof.Rows L2 PV
section
variable {P : List Int}
theorem map_set (nd : P.Nodup) (st : Int → Int) {i : Nat} (hi : i < P.length) (v : Int) : (P.map st).set i v = P.map (put1 st P[i] v) := by
  apply List.ext_getElem
  · simp
  · intro n h1 h2
    rw [List.length_map] at h2
    rw [List.getElem_set, List.getElem_map, List.getElem_map]
    unfold put1
    by_cases e : i = n
    · subst e; simp
    · rw [if_neg e, if_neg]
      intro z
      exact e ((List.getElem_inj nd).mp z).symm
theorem map_getD (st : Int → Int) {j : Nat} (hj : j < P.length) : (P.map st).getD j 0 = st P[j] := by
  rw [List.getD_eq_getElem?_getD, List.getElem?_map, List.getElem?_eq_getElem hj]; rfl
def okR (P : List Int) (sw : Bool) (r : Rw) : Prop := (r.a ∈ P ∧ r.b ∈ P) ∧ (sw = false → r.sw = false)
theorem steps_row (nd : P.Nodup) {st : Int → Int} {sw : Bool} {h' : List Int} (h : h' ∈ stepsF (P.map st) sw) : ∃ r, okR P sw r ∧ h' = P.map (step1 st r) := by
  obtain ⟨i, hi, h⟩ := List.mem_flatMap.mp h
  obtain ⟨j, hj, h⟩ := List.mem_flatMap.mp h
  have hi : i < P.length := by have := List.mem_range.mp hi; simpa using this
  have hj : j < P.length := by have := List.mem_range.mp hj; simpa using this
  unfold stepRow at h
  split at h
  · cases h
  · rw [map_getD st hj, map_getD st hi, map_set nd st hi] at h
    rcases List.mem_append.mp h with q | q
    · have : h' = P.map (put1 st P[i] (st P[j])) := by simpa using q
      exact ⟨⟨false, P[i], P[j]⟩, ⟨⟨List.getElem_mem hi, List.getElem_mem hj⟩, fun _ => rfl⟩, this⟩
    · split at q
      · rename_i hsw
        rw [Bool.and_eq_true] at hsw
        rw [map_set nd _ hj] at q
        have : h' = P.map (put1 (put1 st P[i] (st P[j])) P[j] (st P[i])) := by simpa using q
        exact ⟨⟨true, P[i], P[j]⟩, ⟨⟨List.getElem_mem hi, List.getElem_mem hj⟩, fun z => by rw [hsw.1] at z; cases z⟩, this⟩
      · cases q
theorem row_steps (nd : P.Nodup) {st : Int → Int} {sw : Bool} {r : Rw} (h : okR P sw r) : P.map (step1 st r) = P.map st ∨ P.map (step1 st r) ∈ stepsF (P.map st) sw := by
  obtain ⟨⟨ha, hb⟩, hs⟩ := h
  obtain ⟨i, hi, ei⟩ := List.mem_iff_getElem.mp ha
  obtain ⟨j, hj, ej⟩ := List.mem_iff_getElem.mp hb
  have mem : ∀ {i j : Nat} {x}, i < P.length → j < P.length → x ∈ stepRow (P.map st) sw i j → x ∈ stepsF (P.map st) sw := fun hi hj hx => List.mem_flatMap.mpr ⟨_, List.mem_range.mpr (by simpa using hi), List.mem_flatMap.mpr ⟨_, List.mem_range.mpr (by simpa using hj), hx⟩⟩
  by_cases e : i = j
  · left
    have eab : r.a = r.b := by rw [← ei, ← ej]; simp [e]
    congr 1
    funext x
    have p1 : ∀ y, put1 st r.b (st r.b) y = st y := fun y => by
      unfold put1
      split
      · rename_i z; rw [z]
      · rfl
    unfold step1
    rw [eab]
    split
    · show (if x = r.b then st r.b else put1 st r.b (st r.b) x) = st x
      rw [p1]
      split
      · rename_i z; rw [z]
      · rfl
    · exact p1 x
  · right
    have nab : r.a ≠ r.b := fun z => e ((List.getElem_inj nd).mp (by rw [ei, ej]; exact z))
    have s1 : ∀ {i j : Nat} (hi : i < P.length) (hj : j < P.length), i ≠ j → P.map (put1 st P[i] (st P[j])) ∈ stepRow (P.map st) sw i j := fun hi hj hne => by
      unfold stepRow
      rw [if_neg hne, map_getD st hj, map_set nd st hi]
      exact List.mem_append_left _ (by simp)
    have s2 : ∀ {i j : Nat} (hi : i < P.length) (hj : j < P.length), i < j → sw = true → P.map (put1 (put1 st P[i] (st P[j])) P[j] (st P[i])) ∈ stepRow (P.map st) sw i j := fun {i j} hi hj hlt hsw => by
      unfold stepRow
      rw [if_neg (by omega), map_getD st hj, map_getD st hi, map_set nd st hi, if_pos (by rw [hsw, decide_eq_true hlt]; rfl), map_set nd _ hj]
      exact List.mem_append_right _ (by simp)
    cases hsw : r.sw with
    | false =>
      have : step1 st r = put1 st P[i] (st P[j]) := by unfold step1; rw [hsw, ei, ej]; rfl
      rw [this]
      exact mem hi hj (s1 hi hj e)
    | true =>
      have hst : sw = true := by
        cases sw with
        | true => rfl
        | false => rw [hs rfl] at hsw; cases hsw
      have e1 : step1 st r = put1 (put1 st r.a (st r.b)) r.b (st r.a) := by unfold step1; rw [hsw]; rfl
      rcases Nat.lt_or_gt_of_ne e with hlt | hgt
      · have := mem hi hj (s2 hi hj hlt hst)
        rw [ei, ej] at this
        rw [e1]; exact this
      · have := mem hj hi (s2 hj hi hgt hst)
        rw [ei, ej] at this
        rw [e1]
        have e2 : put1 (put1 st r.a (st r.b)) r.b (st r.a) = put1 (put1 st r.b (st r.a)) r.a (st r.b) := by
          funext x
          unfold put1
          by_cases xa : x = r.a
          · rw [if_neg (by rw [xa]; exact nab), if_pos xa, if_pos xa]
          · rw [if_neg xa, if_neg xa]
        rw [e2]; exact this
def Rc (P : List Int) (sw : Bool) (c : Nat) (h : List Int) : Prop := ∃ rs : List Rw, rs.length ≤ c ∧ (∀ r ∈ rs, okR P sw r) ∧ h = P.map (run rs id)
theorem rc_mono {sw : Bool} {c d : Nat} {h : List Int} (q : Rc P sw c h) (hcd : c ≤ d) : Rc P sw d h := by
  obtain ⟨rs, h1, h2, h3⟩ := q
  exact ⟨rs, Nat.le_trans h1 hcd, h2, h3⟩
theorem rc_step (nd : P.Nodup) {sw : Bool} {c : Nat} {h h' : List Int} (q : Rc P sw c h) (hs : h' ∈ stepsF h sw) : Rc P sw (c + 1) h' := by
  obtain ⟨rs, h1, h2, rfl⟩ := q
  obtain ⟨r, h3, h4⟩ := steps_row nd hs
  refine ⟨rs ++ [r], by rw [List.length_append]; exact Nat.succ_le_succ h1, fun x hx => ?_, ?_⟩
  · rcases List.mem_append.mp hx with z | z
    · exact h2 x z
    · have : x = r := by simpa using z
      rw [this]; exact h3
  · rw [h4, run_app]; rfl
/-- one more row: nothing new, or a step -/
theorem rc_succ (nd : P.Nodup) {sw : Bool} {c : Nat} {h' : List Int} (q : Rc P sw (c + 1) h') : Rc P sw c h' ∨ ∃ h, Rc P sw c h ∧ h' ∈ stepsF h sw := by
  obtain ⟨rs, h1, h2, rfl⟩ := q
  cases hrs : rs with
  | nil => exact .inl ⟨[], Nat.zero_le _, (fun _ h => nomatch h), rfl⟩
  | cons x xs =>
    obtain ⟨us, r, e⟩ : ∃ us r, rs = us ++ [r] := ⟨(x :: xs).dropLast, (x :: xs).getLast (List.cons_ne_nil _ _), by rw [hrs]; exact (List.dropLast_concat_getLast (List.cons_ne_nil _ _)).symm⟩
    rw [← hrs]
    clear hrs
    subst e
    rw [List.length_append] at h1
    have hl : us.length ≤ c := Nat.le_of_succ_le_succ h1
    have hu : Rc P sw c (P.map (run us id)) := ⟨us, hl, fun r hr => h2 r (List.mem_append_left _ hr), rfl⟩
    have e2 : run (us ++ [r]) id = step1 (run us id) r := by rw [run_app]; rfl
    rw [e2]
    rcases row_steps nd (st := run us id) (h2 r (by simp)) with z | z
    · rw [z]; exact .inl hu
    · exact .inr ⟨_, hu, z⟩
/-! ### how many states -/
def allL (P : List Int) : Nat → List (List Int)
  | 0 => [[]]
  | n + 1 => P.flatMap fun x => (allL P n).map (x :: ·)
theorem allL_len (P : List Int) : ∀ n, (allL P n).length = P.length ^ n
  | 0 => rfl
  | n + 1 => by
    have : ∀ Q : List Int, (Q.flatMap fun x => (allL P n).map (x :: ·)).length = Q.length * (allL P n).length := by
      intro Q
      induction Q with
      | nil => simp
      | cons x Q ih => rw [List.flatMap_cons, List.length_append, ih, List.length_map, List.length_cons, Nat.succ_mul, Nat.add_comm]
    show (P.flatMap fun x => (allL P n).map (x :: ·)).length = _
    rw [this, allL_len P n, Nat.pow_succ, Nat.mul_comm]
theorem allL_mem (P : List Int) : ∀ h : List Int, (∀ x ∈ h, x ∈ P) → h ∈ allL P h.length
  | [], _ => by simp [allL]
  | x :: h, hx => List.mem_flatMap.mpr ⟨x, hx x (List.mem_cons_self ..), List.mem_map.mpr ⟨h, allL_mem P h fun y hy => hx y (List.mem_cons_of_mem _ hy), rfl⟩⟩
theorem rc_in (nd : P.Nodup) {sw : Bool} {c : Nat} {h : List Int} (q : Rc P sw c h) : h ∈ allL P P.length := by
  obtain ⟨rs, h1, h2, rfl⟩ := q
  obtain ⟨col, C, _, _, _, h4⟩ := classes rs P nd fun r hr => (h2 r hr).1
  have := allL_mem P (P.map (run rs id)) fun x hx => by
    obtain ⟨y, hy, e⟩ := List.mem_map.mp hx
    rw [← e]; exact (h4 y hy).1
  rwa [List.length_map] at this
theorem few_states {Z : List (List Int)} (nd : P.Nodup) (hP : P.length ≤ 5) {sw : Bool} {c : Nat} (zd : Z.Nodup) (hZ : ∀ h ∈ Z, Rc P sw c h) : Z.length ≤ 3125 := by
  have := ph_le zd fun h hh => rc_in nd (hZ h hh)
  rw [allL_len] at this
  refine Nat.le_trans this ?_
  generalize P.length = n at hP
  match n, hP with
  | 0, _ => decide
  | 1, _ => decide
  | 2, _ => decide
  | 3, _ => decide
  | 4, _ => decide
  | 5, _ => decide
end
end K7

set_option Elab.async false
set_option linter.all false
set_option maxRecDepth 100000
set_option maxHeartbeats 4000000
/-! k07, part Zb: _law_fewest, its first loop. -/
namespace K7
open PySem PySem.Spec PyProof.Rows L2 PV
def keyI (h : List Int) : List Key := h.map Sum.inl
def zD (Z : List (List Int)) : D := .dicT (Z.map fun h => (keyI h, .bl true))
abbrev envF (ms : List (Int × Int)) (ps : List Int) (sp : Option Int) (P : List Int) (Z : List (List Int)) (k6 : Nat) (F : List (List Int)) (c : Int) (x8 x9 x11 x12 x13 : Option (Nat × D)) : PV.Env :=
  [some (0, mvD ms), some (0, inL ps), some (0, spD' sp), some (1, inL P), some (1, inL (ms.map (·.1))), some (1, zD Z), some (k6, hsL F), some (0, .int c), x8, x9, none, x11, x12, x13, none, none, none]
theorem index_ok : ∀ {P : List Int} {g : Int}, g ∈ P → ∃ i, ∃ h : i < P.length, indexD (P.map D.int) (.int g) = some i ∧ P[i] = g
  | [], g, h => by cases h
  | x :: P, g, h => by
    show ∃ i, ∃ h : i < (x :: P).length, (if eqF (.int x) (.int g) = true then some 0 else (indexD (P.map D.int) (.int g)).map (· + 1)) = some i ∧ (x :: P)[i] = g
    by_cases e : x = g
    · exact ⟨0, Nat.succ_pos _, by rw [if_pos (show eqF (.int x) (.int g) = true from beq_iff_eq.mpr e)], e⟩
    · obtain ⟨i, h1, h2, h3⟩ := index_ok ((List.mem_cons.mp h).resolve_left fun z => e z.symm)
      exact ⟨i + 1, Nat.succ_lt_succ h1, by rw [if_neg (show ¬ eqF (.int x) (.int g) = true from fun z => e (beq_iff_eq.mp z)), h2]; rfl, by simpa using h3⟩
def restL (ms : List (Int × Int)) (ps P : List Int) : List Int := (((List.range ps.length).map fun i : Nat => (i : Int)).filter fun k => decide (P.getD k.toNat 0 ∉ ms.map (·.1)))
def goalB (ms : List (Int × Int)) (ps P : List Int) (st : Int → Int) : Bool := (ms.all fun p => decide (st p.1 = p.2)) && (restL ms ps P).all fun k => decide (st (P.getD k.toNat 0) = P.getD k.toNat 0)
def lp1 : Sta := (.cons (.set 11 (.blt .all (.lc [15, 16] (.many [15, 16]) (.itr (.var 0)) .yes (.cmp .eq (.idx (.var 8) (.index (.var 3) (.var 15))) (.var 16)))))
    (.cons (.set 12 (.lc [14] (.one 14) (.rng (.blt .len (.var 1))) (.cmp .notin (.idx (.var 3) (.var 14)) (.var 4)) (.var 14)))
    (.cons (.ite (.and_ (.var 11) (.blt .all (.lc [14] (.one 14) (.itr (.var 12)) .yes (.cmp .eq (.idx (.var 8) (.var 14)) (.idx (.var 3) (.var 14)))))) (.cons (.retv 7)
    .nil) .nil)
    .nil)))
section
variable {ms : List (Int × Int)} {ps : List Int} {sp : Option Int} {P : List Int} {Z F : List (List Int)} {k6 : Nat} {c : Int} {x9 x11 x12 x13 : Option (Nat × D)} (k : Nat)
theorem all_ev {α : Type} (xs : List α) (f : α → Bool) : bltD .all (.lst (xs.map fun x => .bl (f x))) = some (0, .bl (xs.all f)) := by
  show (bools (xs.map fun x => .bl (f x))).map (fun bs => (0, D.bl (bs.all id))) = _
  rw [bools_map f]
  show some (0, D.bl ((xs.map f).all id)) = _
  rw [List.all_map]; rfl
theorem idx_tupm {st : Int → Int} {i : Nat} (hi : i < P.length) : idxD (tupI (P.map st)) (.int (i : Nat)) = some (.int (st P[i])) := by
  rw [idx_tup (by simpa using hi), map_getD st hi]
theorem good_ev {st : Int → Int} {ρ : Ro} (h0 : ρ[0]? = some (some (mvD ms))) (h3 : ρ[3]? = some (some (inL P))) (h8 : ρ[8]? = some (some (tupI (P.map st)))) (hl : ρ.length = 17) (hm : ∀ p ∈ ms, p.1 ∈ P) :
    ev (CC k) G (.blt .all (.lc [15, 16] (.many [15, 16]) (.itr (.var 0)) .yes (.cmp .eq (.idx (.var 8) (.index (.var 3) (.var 15))) (.var 16)))) ρ = some (0, .bl (ms.all fun p => decide (st p.1 = p.2))) := by
  have e1 : ev (CC k) G (.lc [15, 16] (.many [15, 16]) (.itr (.var 0)) .yes (.cmp .eq (.idx (.var 8) (.index (.var 3) (.var 15))) (.var 16))) ρ = some (1, .lst (ms.map fun p => .bl (decide (st p.1 = p.2)))) := by
    refine ev_lc (ds := ms.map pr) (by simp only [evI, ev, h0]; rfl) (lc_all (tg := .many [15, 16]) pr (fun p => .bl (decide (st p.1 = p.2))) fun p hp => ⟨_, rfl, 0, ?_⟩)
    obtain ⟨i, hi, hx, hg⟩ := index_ok (hm p hp)
    have l8 : (wipeR ρ [15, 16]).length = 17 := by simp [wipeR, hl]
    have w3 : (wipeR ρ [15, 16])[3]? = some (some (inL P)) := by
      show ((ρ.set 16 none).set 15 none)[3]? = _
      rw [List.getElem?_set_ne (by decide), List.getElem?_set_ne (by decide)]; exact h3
    have w8 : (wipeR ρ [15, 16])[8]? = some (some (tupI (P.map st))) := by
      show ((ρ.set 16 none).set 15 none)[8]? = _
      rw [List.getElem?_set_ne (by decide), List.getElem?_set_ne (by decide)]; exact h8
    generalize wipeR ρ [15, 16] = ρ9 at *
    have g : ∀ j : Nat, (asgs [15, 16] [.int p.1, .int p.2] ρ9)[j]? = ((ρ9.set 15 (some (D.int p.1))).set 16 (some (D.int p.2)))[j]? := fun _ => rfl
    have g3 : (asgs [15, 16] [.int p.1, .int p.2] ρ9)[3]? = some (some (inL P)) := by
      rw [g, List.getElem?_set_ne (by decide), List.getElem?_set_ne (by decide)]; exact w3
    have g8 : (asgs [15, 16] [.int p.1, .int p.2] ρ9)[8]? = some (some (tupI (P.map st))) := by
      rw [g, List.getElem?_set_ne (by decide), List.getElem?_set_ne (by decide)]; exact w8
    have g15 : (asgs [15, 16] [.int p.1, .int p.2] ρ9)[15]? = some (some (.int p.1)) := by
      rw [g, List.getElem?_set_ne (by decide), List.getElem?_set_self (by omega)]
    have g16 : (asgs [15, 16] [.int p.1, .int p.2] ρ9)[16]? = some (some (.int p.2)) := by
      rw [g, List.getElem?_set_self (by rw [List.length_set]; omega)]
    have ei : ev (CC k) G (.index (.var 3) (.var 15)) (asgs [15, 16] [.int p.1, .int p.2] ρ9) = some (0, .int (i : Nat)) := by
      simp only [ev, g3, g15]
      show (if flat (.int p.1) = true ∧ (P.map D.int).all flat = true then (indexD (P.map D.int) (.int p.1)).map (fun n => (0, D.int (n : Nat))) else none) = _
      rw [if_pos ⟨rfl, flat_ints P⟩, hx]; rfl
    have ej : ev (CC k) G (.idx (.var 8) (.index (.var 3) (.var 15))) (asgs [15, 16] [.int p.1, .int p.2] ρ9) = some (0, .int (st p.1)) := by
      rw [ev, ei]
      simp only [ev, g8, idx_tupm hi, Option.map_some, hg]
    rw [ev, ej]
    simp only [ev, g16, cmpD, eqd_int]
    rfl
  rw [ev, e1]
  exact all_ev ms _
theorem rest_ev {ρ : Ro} (h1 : ρ[1]? = some (some (inL ps))) (h3 : ρ[3]? = some (some (inL P))) (h4 : ρ[4]? = some (some (inL (ms.map (·.1))))) (hl : ρ.length = 17) (hps : ps.length ≤ P.length) (hP : P.length ≤ 100) :
    ev (CC k) G (.lc [14] (.one 14) (.rng (.blt .len (.var 1))) (.cmp .notin (.idx (.var 3) (.var 14)) (.var 4)) (.var 14)) ρ = some (1, inL (restL ms ps P)) := by
  have hb : bltD .len (inL ps) = some (0, .int (ps.length : Nat)) := by
    show some (0, D.int ((ps.map D.int).length : Nat)) = _
    rw [List.length_map]
  refine ev_lc (ds := ((List.range ps.length).map fun i : Nat => (i : Int)).map D.int) ?_ (lc_rule (tg := .one 14) D.int (fun k => decide (P.getD k.toNat 0 ∉ ms.map (·.1))) D.int fun x hx => ⟨(wipeR ρ [14]).set 14 (some (.int x)), rfl, ⟨0, ?_⟩, fun _ => ⟨0, ?_⟩⟩)
  · simp only [evI, ev, h1, hb]
    rw [if_pos ⟨by show (ps.length : Int) ≤ 100000; omega, by omega⟩]
    unfold rngD
    simp
  · obtain ⟨i, hi, rfl⟩ := List.mem_map.mp hx
    have hi : i < P.length := by have := List.mem_range.mp hi; omega
    have g3 : ((wipeR ρ [14]).set 14 (some (D.int (i : Nat))))[3]? = some (some (inL P)) := by
      show ((ρ.set 14 none).set 14 _)[3]? = _
      rw [List.getElem?_set_ne (by decide), List.getElem?_set_ne (by decide)]; exact h3
    have g4 : ((wipeR ρ [14]).set 14 (some (D.int (i : Nat))))[4]? = some (some (inL (ms.map (·.1)))) := by
      show ((ρ.set 14 none).set 14 _)[4]? = _
      rw [List.getElem?_set_ne (by decide), List.getElem?_set_ne (by decide)]; exact h4
    have g14 : ((wipeR ρ [14]).set 14 (some (D.int (i : Nat))))[14]? = some (some (.int (i : Nat))) := by
      show ((ρ.set 14 none).set 14 _)[14]? = _
      rw [List.getElem?_set_self (by rw [List.length_set]; omega)]
    have hidx : idxD (inL P) (.int (i : Nat)) = some (.int (P.getD i 0)) := by
      refine idx_in ?_
      rw [List.getD_eq_getElem?_getD, List.getElem?_eq_getElem hi]; rfl
    simp only [ev, g3, g4, g14, hidx, Option.map_some, cmpD, ind_in]
    simp
  · have g14 : ((wipeR ρ [14]).set 14 (some (D.int x)))[14]? = some (some (.int x)) := by
      show ((ρ.set 14 none).set 14 _)[14]? = _
      rw [List.getElem?_set_self (by rw [List.length_set]; omega)]
    simp only [ev, g14]
theorem lp1_ok {st : Int → Int} (hm : ∀ p ∈ ms, p.1 ∈ P) (hps : ps.length ≤ P.length) (hP : P.length ≤ 100) :
    PV.exec (CC k) G W lp1 (envF ms ps sp P Z k6 F c (some (0, tupI (P.map st))) x9 x11 x12 x13) = if goalB ms ps P st = true then some (.rt 0 (.int c)) else some (.nx (envF ms ps sp P Z k6 F c (some (0, tupI (P.map st))) x9 (some (0, .bl (ms.all fun p => decide (st p.1 = p.2)))) (some (1, inL (restL ms ps P))) x13)) := by
  have s11 : PV.exec (CC k) G W (.set 11 (.blt .all (.lc [15, 16] (.many [15, 16]) (.itr (.var 0)) .yes (.cmp .eq (.idx (.var 8) (.index (.var 3) (.var 15))) (.var 16))))) (envF ms ps sp P Z k6 F c (some (0, tupI (P.map st))) x9 x11 x12 x13) = some (.nx (envF ms ps sp P Z k6 F c (some (0, tupI (P.map st))) x9 (some (0, .bl (ms.all fun p => decide (st p.1 = p.2)))) x12 x13)) :=
    ex_set (i := 11) (evS_ns (good_ev k (exp_get (k := 0) rfl (.inl rfl)) (exp_get (k := 1) rfl (.inr (by decide))) (exp_get (k := 0) rfl (.inl rfl)) (by rw [exp_len]; rfl) hm) rfl)
  refine (ex_nx s11).trans ?_
  have s12 : PV.exec (CC k) G W (.set 12 (.lc [14] (.one 14) (.rng (.blt .len (.var 1))) (.cmp .notin (.idx (.var 3) (.var 14)) (.var 4)) (.var 14))) (envF ms ps sp P Z k6 F c (some (0, tupI (P.map st))) x9 (some (0, .bl (ms.all fun p => decide (st p.1 = p.2)))) x12 x13) = some (.nx (envF ms ps sp P Z k6 F c (some (0, tupI (P.map st))) x9 (some (0, .bl (ms.all fun p => decide (st p.1 = p.2)))) (some (1, inL (restL ms ps P))) x13)) :=
    ex_set (i := 12) (evS_ns (rest_ev k (exp_get (k := 0) rfl (.inl rfl)) (exp_get (k := 1) rfl (.inr (by decide))) (exp_get (k := 1) rfl (.inr (by decide))) (by rw [exp_len]; rfl) hps hP) (nosh_in _))
  refine (ex_nx s12).trans ?_
  have hif : evB (CC k) G (.and_ (.var 11) (.blt .all (.lc [14] (.one 14) (.itr (.var 12)) .yes (.cmp .eq (.idx (.var 8) (.var 14)) (.idx (.var 3) (.var 14)))))) (envF ms ps sp P Z k6 F c (some (0, tupI (P.map st))) x9 (some (0, .bl (ms.all fun p => decide (st p.1 = p.2)))) (some (1, inL (restL ms ps P))) x13) = some (goalB ms ps P st) := by
    refine evB_of (k := 0) ?_
    have g11 := exp_get (m := fv (.and_ (.var 11) (.blt .all (.lc [14] (.one 14) (.itr (.var 12)) .yes (.cmp .eq (.idx (.var 8) (.var 14)) (.idx (.var 3) (.var 14))))))) (i := 0) (j := 11) (ρ := envF ms ps sp P Z k6 F c (some (0, tupI (P.map st))) x9 (some (0, .bl (ms.all fun p => decide (st p.1 = p.2)))) (some (1, inL (restL ms ps P))) x13) rfl (.inl rfl)
    have g12 := exp_get (m := fv (.and_ (.var 11) (.blt .all (.lc [14] (.one 14) (.itr (.var 12)) .yes (.cmp .eq (.idx (.var 8) (.var 14)) (.idx (.var 3) (.var 14))))))) (i := 0) (j := 12) (ρ := envF ms ps sp P Z k6 F c (some (0, tupI (P.map st))) x9 (some (0, .bl (ms.all fun p => decide (st p.1 = p.2)))) (some (1, inL (restL ms ps P))) x13) rfl (.inr (by decide))
    have g8 := exp_get (m := fv (.and_ (.var 11) (.blt .all (.lc [14] (.one 14) (.itr (.var 12)) .yes (.cmp .eq (.idx (.var 8) (.var 14)) (.idx (.var 3) (.var 14))))))) (i := 0) (j := 8) (ρ := envF ms ps sp P Z k6 F c (some (0, tupI (P.map st))) x9 (some (0, .bl (ms.all fun p => decide (st p.1 = p.2)))) (some (1, inL (restL ms ps P))) x13) rfl (.inl rfl)
    have g3 := exp_get (m := fv (.and_ (.var 11) (.blt .all (.lc [14] (.one 14) (.itr (.var 12)) .yes (.cmp .eq (.idx (.var 8) (.var 14)) (.idx (.var 3) (.var 14))))))) (i := 0) (j := 3) (ρ := envF ms ps sp P Z k6 F c (some (0, tupI (P.map st))) x9 (some (0, .bl (ms.all fun p => decide (st p.1 = p.2)))) (some (1, inL (restL ms ps P))) x13) rfl (.inr (by decide))
    have hl : (expose (fv (.and_ (.var 11) (.blt .all (.lc [14] (.one 14) (.itr (.var 12)) .yes (.cmp .eq (.idx (.var 8) (.var 14)) (.idx (.var 3) (.var 14))))))) 0 (envF ms ps sp P Z k6 F c (some (0, tupI (P.map st))) x9 (some (0, .bl (ms.all fun p => decide (st p.1 = p.2)))) (some (1, inL (restL ms ps P))) x13)).length = 17 := by rw [exp_len]; rfl
    generalize expose (fv (.and_ (.var 11) (.blt .all (.lc [14] (.one 14) (.itr (.var 12)) .yes (.cmp .eq (.idx (.var 8) (.var 14)) (.idx (.var 3) (.var 14))))))) 0 (envF ms ps sp P Z k6 F c (some (0, tupI (P.map st))) x9 (some (0, .bl (ms.all fun p => decide (st p.1 = p.2)))) (some (1, inL (restL ms ps P))) x13) = ρ at *
    have e1 : ev (CC k) G (.lc [14] (.one 14) (.itr (.var 12)) .yes (.cmp .eq (.idx (.var 8) (.var 14)) (.idx (.var 3) (.var 14)))) ρ = some (1, .lst ((restL ms ps P).map fun k => .bl (decide (st (P.getD k.toNat 0) = P.getD k.toNat 0)))) := by
      refine ev_lc (ds := (restL ms ps P).map D.int) (by simp only [evI, ev, g12]; rfl) (lc_all (tg := .one 14) D.int (fun k => .bl (decide (st (P.getD k.toNat 0) = P.getD k.toNat 0))) fun x hx => ⟨(wipeR ρ [14]).set 14 (some (.int x)), rfl, 0, ?_⟩)
      obtain ⟨i, hi, rfl⟩ := List.mem_map.mp (List.mem_filter.mp hx).1
      have hi : i < P.length := by have := List.mem_range.mp hi; omega
      have w3 : ((wipeR ρ [14]).set 14 (some (D.int (i : Nat))))[3]? = some (some (inL P)) := by
        show ((ρ.set 14 none).set 14 _)[3]? = _
        rw [List.getElem?_set_ne (by decide), List.getElem?_set_ne (by decide)]; exact g3
      have w8 : ((wipeR ρ [14]).set 14 (some (D.int (i : Nat))))[8]? = some (some (tupI (P.map st))) := by
        show ((ρ.set 14 none).set 14 _)[8]? = _
        rw [List.getElem?_set_ne (by decide), List.getElem?_set_ne (by decide)]; exact g8
      have w14 : ((wipeR ρ [14]).set 14 (some (D.int (i : Nat))))[14]? = some (some (.int (i : Nat))) := by
        show ((ρ.set 14 none).set 14 _)[14]? = _
        rw [List.getElem?_set_self (by rw [List.length_set]; omega)]
      have hP0 : P.getD i 0 = P[i] := by rw [List.getD_eq_getElem?_getD, List.getElem?_eq_getElem hi]; rfl
      have hidx : idxD (inL P) (.int (i : Nat)) = some (.int P[i]) := idx_in (List.getElem?_eq_getElem hi)
      simp only [ev, w3, w8, w14, hidx, idx_tupm hi, Option.map_some, cmpD, eqd_int]
      rw [show ((i : Int)).toNat = i from rfl, hP0]
      rfl
    have e0 : ev (CC k) G (.var 11) ρ = some (0, .bl (ms.all fun p => decide (st p.1 = p.2))) := by simp only [ev, g11]
    have e2 : ev (CC k) G (.blt .all (.lc [14] (.one 14) (.itr (.var 12)) .yes (.cmp .eq (.idx (.var 8) (.var 14)) (.idx (.var 3) (.var 14))))) ρ = some (0, .bl ((restL ms ps P).all fun k => decide (st (P.getD k.toNat 0) = P.getD k.toNat 0))) := by
      rw [ev, e1]
      exact all_ev _ _
    rw [ev, e0]
    unfold goalB
    cases hb : (ms.all fun p => decide (st p.1 = p.2)) with
    | false => rfl
    | true =>
      dsimp only
      rw [e2]
      simp
  cases hg : goalB ms ps P st with
  | true =>
    rw [hg] at hif
    rw [if_pos rfl]
    exact ex_rt ((ex_true hif).trans rfl)
  | false =>
    rw [hg] at hif
    rw [if_neg Bool.false_ne_true]
    exact (ex_nx ((ex_false hif).trans rfl)).trans rfl
end
end K7

set_option Elab.async false
set_option linter.all false
set_option maxRecDepth 100000
set_option maxHeartbeats 4000000
/-! k07, part Zc: _law_fewest, its walk. -/
namespace K7
open PySem PySem.Spec PyProof.Rows L2 PV
theorem keyI_inj : ∀ {a b : List Int}, keyI a = keyI b → a = b
  | [], [], _ => rfl
  | [], _ :: _, h => by cases h
  | _ :: _, [], h => by cases h
  | x :: a, y :: b, h => by
    injection h with h1 h2
    rw [Sum.inl.inj h1, keyI_inj h2]
theorem keys_int : ∀ h : List Int, keysOf (h.map D.int) = some (keyI h)
  | [] => rfl
  | x :: h => by
    show (match keyOf (.int x), keysOf (h.map D.int) with
      | some k, some ks => some (k :: ks)
      | _, _ => none) = _
    rw [keys_int h]; rfl
theorem val_z (Z : List (List Int)) (h : List Int) : (valD (Z.map fun h => (keyI h, D.bl true)) (keyI h)).isSome = decide (h ∈ Z) := by
  unfold valD
  rw [Option.isSome_map]
  by_cases q : h ∈ Z
  · rw [decide_eq_true q, List.find?_isSome]
    exact ⟨(keyI h, .bl true), List.mem_map.mpr ⟨h, q, rfl⟩, decide_eq_true rfl⟩
  · rw [decide_eq_false q]
    rw [← Bool.not_eq_true, List.find?_isSome]
    rintro ⟨p, h1, h2⟩
    obtain ⟨g, h3, rfl⟩ := List.mem_map.mp h1
    exact q (keyI_inj (of_decide_eq_true h2) ▸ h3)
theorem ind_z (Z : List (List Int)) (h : List Int) : inD (tupI h) (zD Z) = some (decide (h ∈ Z)) := by
  show (match keysOf (h.map D.int) with
    | some k => some (valD (Z.map fun h => (keyI h, D.bl true)) k).isSome
    | none => none) = _
  rw [keys_int]
  dsimp only
  rw [val_z]
theorem put_z {Z : List (List Int)} {h : List Int} (hn : h ∉ Z) (hl : Z.length < cap) : putAt (zD Z) (tupI h) (.bl true) = some (zD (Z ++ [h])) := by
  show (match keysOf (h.map D.int) with
    | some k => if (Z.map fun h => (keyI h, D.bl true)).length < cap then some (D.dicT (putD (Z.map fun h => (keyI h, D.bl true)) k (.bl true))) else none
    | none => none) = _
  rw [keys_int]
  dsimp only
  rw [if_pos (by rw [List.length_map]; exact hl)]
  unfold putD
  rw [if_neg (fun z => by
    obtain ⟨p, h1, h2⟩ := List.any_eq_true.mp z
    obtain ⟨g, h3, rfl⟩ := List.mem_map.mp h1
    exact hn (keyI_inj (of_decide_eq_true h2) ▸ h3))]
  unfold zD
  rw [List.map_append]; rfl
theorem nosh_z (Z : List (List Int)) : nosh 1 (zD Z) = true := by
  show ((Z.map fun h => (keyI h, D.bl true)).all fun p => nosh 0 p.2) = true
  rw [List.all_map]
  exact List.all_eq_true.mpr fun _ _ => rfl
def lp3 : Sta := (.cons (.ite (.cmp .notin (.var 13) (.var 5)) (.cons (.seti 5 (.var 13) (.bl true))
    (.cons (.app 9 (.var 13))
    .nil)) .nil)
    .nil)
section
variable {ms : List (Int × Int)} {ps : List Int} {sp : Option Int} {P : List Int} {Z F N : List (List Int)} {k6 : Nat} {c : Int} {x8 x11 x12 x13 : Option (Nat × D)} (k : Nat)
theorem lp3_ok {h : List Int} (hl : Z.length < cap) (hn : N.length < cap) : PV.exec (CC k) G W lp3 (envF ms ps sp P Z k6 F c x8 (some (1, hsL N)) x11 x12 (some (0, tupI h))) = some (.nx (envF ms ps sp P (if h ∈ Z then Z else Z ++ [h]) k6 F c x8 (some (1, hsL (if h ∈ Z then N else N ++ [h]))) x11 x12 (some (0, tupI h)))) := by
  have hif : evB (CC k) G (.cmp .notin (.var 13) (.var 5)) (envF ms ps sp P Z k6 F c x8 (some (1, hsL N)) x11 x12 (some (0, tupI h))) = some (decide (h ∉ Z)) := by
    refine evB_of (k := 0) ?_
    have g13 := exp_get (m := fv (.cmp .notin (.var 13) (.var 5))) (i := 0) (j := 13) (ρ := envF ms ps sp P Z k6 F c x8 (some (1, hsL N)) x11 x12 (some (0, tupI h))) rfl (.inl rfl)
    have g5 := exp_get (m := fv (.cmp .notin (.var 13) (.var 5))) (i := 0) (j := 5) (ρ := envF ms ps sp P Z k6 F c x8 (some (1, hsL N)) x11 x12 (some (0, tupI h))) rfl (.inr (by decide))
    simp only [ev, g13, g5, cmpD, ind_z]
    simp
  by_cases q : h ∈ Z
  · rw [decide_eq_false (fun z => z q)] at hif
    rw [if_pos q, if_pos q]
    exact (ex_nx ((ex_false hif).trans rfl)).trans rfl
  · rw [decide_eq_true q] at hif
    rw [if_neg q, if_neg q]
    have p1 : PV.exec (CC k) G W (.seti 5 (.var 13) (.bl true)) (envF ms ps sp P Z k6 F c x8 (some (1, hsL N)) x11 x12 (some (0, tupI h))) = some (.nx (envF ms ps sp P (Z ++ [h]) k6 F c x8 (some (1, hsL N)) x11 x12 (some (0, tupI h)))) := by
      refine ex_seti (k := 0) (d := .bl true) (k2 := 0) (y := tupI h) (d0 := zD Z) (d' := zD (Z ++ [h])) (evS_ns rfl rfl) (evS_ns ?_ (imm_tup h)) rfl (put_z q hl)
      simp only [ev, exp_get (m := fv (.var 13)) (i := 0) (j := 13) (k := 0) (d := tupI h) (ρ := envF ms ps sp P Z k6 F c x8 (some (1, hsL N)) x11 x12 (some (0, tupI h))) rfl (.inl rfl)]
    have p2 : PV.exec (CC k) G W (.app 9 (.var 13)) (envF ms ps sp P (Z ++ [h]) k6 F c x8 (some (1, hsL N)) x11 x12 (some (0, tupI h))) = some (.nx (envF ms ps sp P (Z ++ [h]) k6 F c x8 (some (1, hsL (N ++ [h]))) x11 x12 (some (0, tupI h)))) := by
      have e1 : hsL (N ++ [h]) = .lst (N.map tupI ++ [tupI h]) := by simp [hsL]
      unfold envF
      rw [e1]
      refine ex_app (i := 9) (k := 0) (d := tupI h) rfl (evS_ns ?_ (imm_tup h)) rfl (by rw [List.length_map]; exact hn)
      simp only [ev, exp_get (m := fv (.var 13)) (i := 0) (j := 13) (k := 0) (d := tupI h) (ρ := envF ms ps sp P (Z ++ [h]) k6 F c x8 (some (1, hsL N)) x11 x12 (some (0, tupI h))) rfl (.inl rfl)]
    exact (ex_nx ((ex_true hif).trans ((ex_nx p1).trans ((ex_nx p2).trans rfl)))).trans rfl
/-- the states that are new, one by one -/
structure Nw (P : List Int) (sw : Bool) (c : Nat) (Z0 N : List (List Int)) : Prop where
  nd : (Z0 ++ N).Nodup
  rc : ∀ h ∈ Z0 ++ N, Rc P sw (c + 1) h
theorem nw_add {sw : Bool} {cc : Nat} {Z0 : List (List Int)} {h : List Int} (w : Nw P sw cc Z0 N) (hr : Rc P sw (cc + 1) h) : Nw P sw cc Z0 (if h ∈ Z0 ++ N then N else N ++ [h]) ∧ h ∈ Z0 ++ (if h ∈ Z0 ++ N then N else N ++ [h]) ∧ (if h ∈ Z0 ++ N then Z0 ++ N else Z0 ++ N ++ [h]) = Z0 ++ (if h ∈ Z0 ++ N then N else N ++ [h]) := by
  by_cases q : h ∈ Z0 ++ N
  · rw [if_pos q, if_pos q]
    exact ⟨w, q, rfl⟩
  · rw [if_neg q, if_neg q, ← List.append_assoc]
    refine ⟨⟨?_, fun x hx => ?_⟩, by simp, rfl⟩
    · rw [← List.append_assoc, List.nodup_append]
      exact ⟨w.nd, by simp, fun a ha b hb e => q (by
        have : b = h := by simpa using hb
        rw [← this, ← e]; exact ha)⟩
    · rw [← List.append_assoc] at hx
      rcases List.mem_append.mp hx with z | z
      · exact w.rc x z
      · have : x = h := by simpa using z
        rw [this]; exact hr
theorem inner_ok (ndP : P.Nodup) (hP : P.length ≤ 5) {sw : Bool} {cc : Nat} {Z0 : List (List Int)} : ∀ (S : List (List Int)) (N : List (List Int)) (x13 : Option (Nat × D)), Nw P sw cc Z0 N → (∀ h ∈ S, Rc P sw (cc + 1) h) →
    ∃ N' y13, Nw P sw cc Z0 N' ∧ (∀ h ∈ Z0 ++ N, h ∈ Z0 ++ N') ∧ (∀ h ∈ S, h ∈ Z0 ++ N') ∧ forL (.one 13) (fun r => PV.exec (CC k) G W lp3 r) (S.map tupI) (envF ms ps sp P (Z0 ++ N) k6 F c x8 (some (1, hsL N)) x11 x12 x13) = some (.nx (envF ms ps sp P (Z0 ++ N') k6 F c x8 (some (1, hsL N')) x11 x12 y13))
  | [], N, x13, w, _ => ⟨N, x13, w, fun _ h => h, (fun _ h => nomatch h), rfl⟩
  | h :: S, N, x13, w, hr => by
    have hlen := few_states ndP hP w.nd w.rc
    rw [List.length_append] at hlen
    obtain ⟨w1, w2, w3⟩ := nw_add w (hr h (List.mem_cons_self ..))
    have st := lp3_ok (ms := ms) (ps := ps) (sp := sp) (P := P) (Z := Z0 ++ N) (F := F) (N := N) (k6 := k6) (c := c) (x8 := x8) (x11 := x11) (x12 := x12) k (h := h) (by rw [List.length_append]; show _ < 100000; omega) (by show _ < 100000; omega)
    rw [w3] at st
    obtain ⟨N', y13, i1, i2, i3, i4⟩ := inner_ok ndP hP S (if h ∈ Z0 ++ N then N else N ++ [h]) (some (0, tupI h)) w1 fun g hg => hr g (List.mem_cons_of_mem _ hg)
    refine ⟨N', y13, i1, fun g hg => i2 g ?_, fun g hg => ?_, ?_⟩
    · rw [← w3]
      split
      · exact hg
      · exact List.mem_append_left _ hg
    · rcases List.mem_cons.mp hg with e | e
      · rw [e]; exact i2 h w2
      · exact i3 g e
    · rw [List.map_cons]
      unfold forL
      show (match PV.exec (CC k) G W lp3 (envF ms ps sp P (Z0 ++ N) k6 F c x8 (some (1, hsL N)) x11 x12 (some (0, tupI h))) with
        | some (Out.nx ρ2) => forL (.one 13) (fun r => PV.exec (CC k) G W lp3 r) (S.map tupI) ρ2
        | some (Out.ct ρ2) => forL (.one 13) (fun r => PV.exec (CC k) G W lp3 r) (S.map tupI) ρ2
        | some (Out.br ρ2) => some (Out.nx ρ2)
        | some (Out.rt k d) => some (Out.rt k d)
        | none => none) = _
      rw [st]
      exact i4
end
end K7

set_option Elab.async false
set_option linter.all false
set_option maxRecDepth 100000
set_option maxHeartbeats 4000000
/-! k07, part Zd: _law_fewest, whole. -/
namespace K7
open PySem PySem.Spec PyProof.Rows L2 PV
def lp2 : Sta := (.cons (.for_ (.one 13) (.itn (.call "_law_steps" (.cons (.var 8) (.cons (.cmp .is_ (.var 2) .non) .nil)) [] .nil)) lp3) .nil)
section
variable {ms : List (Int × Int)} {ps : List Int} {sp : Option Int} {P : List Int} {Z F N : List (List Int)} {k6 : Nat} {c : Int} {x11 x12 x13 : Option (Nat × D)} (k : Nat)
theorem all_cong {α : Type} {f g : α → Bool} : ∀ {l : List α}, (∀ x ∈ l, f x = g x) → l.all f = l.all g
  | [], _ => rfl
  | x :: l, h => by rw [List.all_cons, List.all_cons, h x (List.mem_cons_self ..), all_cong fun y hy => h y (List.mem_cons_of_mem _ hy)]
theorem rc_len {sw : Bool} {cc : Nat} {h : List Int} (q : Rc P sw cc h) : h.length = P.length := by
  obtain ⟨rs, _, _, rfl⟩ := q
  simp
theorem outer_ok (ndP : P.Nodup) (hP : P.length ≤ 5) {cc : Nat} {Z0 : List (List Int)} : ∀ (F2 : List (List Int)) (N : List (List Int)) (x8 x13 : Option (Nat × D)), Nw P sp.isNone cc Z0 N → (∀ h ∈ F2, Rc P sp.isNone cc h) →
    ∃ N' y8 y13, Nw P sp.isNone cc Z0 N' ∧ (∀ h ∈ Z0 ++ N, h ∈ Z0 ++ N') ∧ (∀ h ∈ F2, ∀ h' ∈ stepsF h sp.isNone, h' ∈ Z0 ++ N') ∧ forL (.one 8) (fun r => PV.exec (CC (k + 1)) G W lp2 r) (F2.map tupI) (envF ms ps sp P (Z0 ++ N) k6 F c x8 (some (1, hsL N)) x11 x12 x13) = some (.nx (envF ms ps sp P (Z0 ++ N') k6 F c y8 (some (1, hsL N')) x11 x12 y13))
  | [], N, x8, x13, w, _ => ⟨N, x8, x13, w, fun _ h => h, (fun _ h => nomatch h), rfl⟩
  | h :: F2, N, x8, x13, w, hr => by
    have hh := hr h (List.mem_cons_self ..)
    have hst : ev (CC (k + 1)) G (.call "_law_steps" (.cons (.var 8) (.cons (.cmp .is_ (.var 2) .non) .nil)) [] .nil) (expose (fv (.itn (.call "_law_steps" (.cons (.var 8) (.cons (.cmp .is_ (.var 2) .non) .nil)) [] .nil))) 0 (envF ms ps sp P (Z0 ++ N) k6 F c (some (0, tupI h)) (some (1, hsL N)) x11 x12 x13)) = some (1, hsL (stepsF h sp.isNone)) := by
      have g8 := exp_get (m := fv (.itn (.call "_law_steps" (.cons (.var 8) (.cons (.cmp .is_ (.var 2) .non) .nil)) [] .nil))) (i := 0) (j := 8) (ρ := envF ms ps sp P (Z0 ++ N) k6 F c (some (0, tupI h)) (some (1, hsL N)) x11 x12 x13) rfl (.inl rfl)
      have g2 := exp_get (m := fv (.itn (.call "_law_steps" (.cons (.var 8) (.cons (.cmp .is_ (.var 2) .non) .nil)) [] .nil))) (i := 0) (j := 2) (ρ := envF ms ps sp P (Z0 ++ N) k6 F c (some (0, tupI h)) (some (1, hsL N)) x11 x12 x13) rfl (.inl rfl)
      have hn : PV.isNon (spD' sp) = sp.isNone := by cases sp <;> rfl
      simp only [ev, evs, g8, g2, cmpD, hn, Option.map_some]
      exact steps_ok k h sp.isNone (by rw [rc_len hh]; omega)
    have hfz : freeze (fv (.itn (.call "_law_steps" (.cons (.var 8) (.cons (.cmp .is_ (.var 2) .non) .nil)) [] .nil))) 0 (envF ms ps sp P (Z0 ++ N) k6 F c (some (0, tupI h)) (some (1, hsL N)) x11 x12 x13) = envF ms ps sp P (Z0 ++ N) k6 F c (some (0, tupI h)) (some (1, hsL N)) x11 x12 x13 := by
      cases x11 <;> cases x12 <;> cases x13 <;> rfl
    obtain ⟨N1, y13, i1, i2, i3, i4⟩ := inner_ok (ms := ms) (ps := ps) (sp := sp) (F := F) (k6 := k6) (c := c) (x8 := some (0, tupI h)) (x11 := x11) (x12 := x12) (k + 1) ndP hP (stepsF h sp.isNone) N x13 w fun g hg => rc_step ndP hh hg
    have body : PV.exec (CC (k + 1)) G W lp2 (envF ms ps sp P (Z0 ++ N) k6 F c (some (0, tupI h)) (some (1, hsL N)) x11 x12 x13) = some (.nx (envF ms ps sp P (Z0 ++ N1) k6 F c (some (0, tupI h)) (some (1, hsL N1)) x11 x12 y13)) := by
      refine (ex_nx (ρ' := envF ms ps sp P (Z0 ++ N1) k6 F c (some (0, tupI h)) (some (1, hsL N1)) x11 x12 y13) ?_).trans rfl
      rw [ex_for (ds := (stepsF h sp.isNone).map tupI) ?_ ?_, hfz]
      · exact i4
      · rfl
      · rw [evI, hst]; rfl
    obtain ⟨N2, y8, z13, j1, j2, j3, j4⟩ := outer_ok ndP hP F2 N1 (some (0, tupI h)) y13 i1 fun g hg => hr g (List.mem_cons_of_mem _ hg)
    refine ⟨N2, y8, z13, j1, fun g hg => j2 g (i2 g hg), fun g hg g' hg' => ?_, ?_⟩
    · rcases List.mem_cons.mp hg with e | e
      · rw [e] at hg'; exact j2 g' (i3 g' hg')
      · exact j3 g e g' hg'
    · rw [List.map_cons]
      unfold forL
      show (match PV.exec (CC (k + 1)) G W lp2 (envF ms ps sp P (Z0 ++ N) k6 F c (some (0, tupI h)) (some (1, hsL N)) x11 x12 x13) with
        | some (Out.nx ρ2) => forL (.one 8) (fun r => PV.exec (CC (k + 1)) G W lp2 r) (F2.map tupI) ρ2
        | some (Out.ct ρ2) => forL (.one 8) (fun r => PV.exec (CC (k + 1)) G W lp2 r) (F2.map tupI) ρ2
        | some (Out.br ρ2) => some (Out.nx ρ2)
        | some (Out.rt k d) => some (Out.rt k d)
        | none => none) = _
      rw [body]
      exact j4
/-- the look at the front -/
theorem look_ok (hm : ∀ p ∈ ms, p.1 ∈ P) (hps : ps.length ≤ P.length) (hP : P.length ≤ 100) {x9 : Option (Nat × D)} : ∀ (F2 : List (List Int)) (x8 x11 x12 : Option (Nat × D)), (∀ h ∈ F2, ∃ st, h = P.map st) →
    ((∃ st, P.map st ∈ F2 ∧ goalB ms ps P st = true) ∧ forL (.one 8) (fun r => PV.exec (CC k) G W lp1 r) (F2.map tupI) (envF ms ps sp P Z k6 F c x8 x9 x11 x12 x13) = some (.rt 0 (.int c))) ∨
    ((∀ st, P.map st ∈ F2 → goalB ms ps P st = false) ∧ ∃ y8 y11 y12, forL (.one 8) (fun r => PV.exec (CC k) G W lp1 r) (F2.map tupI) (envF ms ps sp P Z k6 F c x8 x9 x11 x12 x13) = some (.nx (envF ms ps sp P Z k6 F c y8 x9 y11 y12 x13)))
  | [], x8, x11, x12, _ => .inr ⟨(fun _ h => nomatch h), x8, x11, x12, rfl⟩
  | h :: F2, x8, x11, x12, hr => by
    obtain ⟨st, rfl⟩ := hr h (List.mem_cons_self ..)
    have b := lp1_ok (ms := ms) (ps := ps) (sp := sp) (P := P) (Z := Z) (F := F) (k6 := k6) (c := c) (x9 := x9) (x11 := x11) (x12 := x12) (x13 := x13) k (st := st) hm hps hP
    rw [List.map_cons]
    unfold forL
    -- goalB of a state hangs on the state alone
    have hang : ∀ st', P.map st' = P.map st → goalB ms ps P st' = goalB ms ps P st := fun st' e => by
      have hx : ∀ x ∈ P, st' x = st x := fun x hx => by
        obtain ⟨i, hi, rfl⟩ := List.mem_iff_getElem.mp hx
        have h1 : (P.map st').getD i 0 = (P.map st).getD i 0 := by rw [e]
        rwa [map_getD st' hi, map_getD st hi] at h1
      unfold goalB
      congr 1
      · refine all_cong fun p hp => ?_
        rw [hx p.1 (hm p hp)]
      · refine all_cong fun q hq => ?_
        obtain ⟨i, hi, rfl⟩ := List.mem_map.mp (List.mem_filter.mp hq).1
        have hi : i < P.length := by have := List.mem_range.mp hi; omega
        have hP0 : P.getD i 0 = P[i] := by rw [List.getD_eq_getElem?_getD, List.getElem?_eq_getElem hi]; rfl
        rw [show ((i : Nat) : Int).toNat = i from rfl, hP0, hx _ (List.getElem_mem hi)]
    cases hg : goalB ms ps P st with
    | true =>
      rw [if_pos hg] at b
      refine .inl ⟨⟨st, List.mem_cons_self .., hg⟩, ?_⟩
      show (match PV.exec (CC k) G W lp1 (envF ms ps sp P Z k6 F c (some (0, tupI (P.map st))) x9 x11 x12 x13) with
        | some (Out.nx ρ2) => forL (.one 8) (fun r => PV.exec (CC k) G W lp1 r) (F2.map tupI) ρ2
        | some (Out.ct ρ2) => forL (.one 8) (fun r => PV.exec (CC k) G W lp1 r) (F2.map tupI) ρ2
        | some (Out.br ρ2) => some (Out.nx ρ2)
        | some (Out.rt k d) => some (Out.rt k d)
        | none => none) = _
      rw [b]
    | false =>
      rw [if_neg (by rw [hg]; exact Bool.false_ne_true)] at b
      have e : ∀ (y : Option Out), y = forL (.one 8) (fun r => PV.exec (CC k) G W lp1 r) (F2.map tupI) (envF ms ps sp P Z k6 F c (some (0, tupI (P.map st))) x9 (some (0, .bl (ms.all fun p => decide (st p.1 = p.2)))) (some (1, inL (restL ms ps P))) x13) → (match PV.exec (CC k) G W lp1 (envF ms ps sp P Z k6 F c (some (0, tupI (P.map st))) x9 x11 x12 x13) with
        | some (Out.nx ρ2) => forL (.one 8) (fun r => PV.exec (CC k) G W lp1 r) (F2.map tupI) ρ2
        | some (Out.ct ρ2) => forL (.one 8) (fun r => PV.exec (CC k) G W lp1 r) (F2.map tupI) ρ2
        | some (Out.br ρ2) => some (Out.nx ρ2)
        | some (Out.rt k d) => some (Out.rt k d)
        | none => none) = y := fun y hy => by rw [b, hy]
      rcases look_ok hm hps hP F2 (some (0, tupI (P.map st))) (some (0, .bl (ms.all fun p => decide (st p.1 = p.2)))) (some (1, inL (restL ms ps P))) (fun g hg => hr g (List.mem_cons_of_mem _ hg)) with ⟨⟨st', h1, h2⟩, h3⟩ | ⟨h1, y8, y11, y12, h2⟩
      · exact .inl ⟨⟨st', List.mem_cons_of_mem _ h1, h2⟩, e _ h3.symm⟩
      · refine .inr ⟨fun st' h => ?_, y8, y11, y12, e _ h2.symm⟩
        rcases List.mem_cons.mp h with q | q
        · rw [hang st' q]; exact hg
        · exact h1 st' q
theorem fewest_ok {M : Nat} (ndP : (allP ps sp).Nodup) (hP : (allP ps sp).length ≤ 5) (hm : ∀ p ∈ ms, p.1 ∈ ps) (hM : M ≤ 1000) (low : ∀ (c : Nat) st, Rc (allP ps sp) sp.isNone c ((allP ps sp).map st) → goalB ms ps (allP ps sp) st = true → M ≤ c) (up : ∃ st, Rc (allP ps sp) sp.isNone M ((allP ps sp).map st) ∧ goalB ms ps (allP ps sp) st = true) :
    CC (k + 2) "_law_fewest" [mvD ms, inL ps, spD' sp] [] [] = some (0, .int (M : Nat)) := by
  have hps : ps.length ≤ (allP ps sp).length := by
    cases sp with
    | none => exact Nat.le_refl _
    | some s => unfold allP; rw [List.length_append]; omega
  have hmP : ∀ p ∈ ms, p.1 ∈ allP ps sp := fun p hp => allP_sub (hm p hp)
  generalize hPP : allP ps sp = P at *
  show runD (CC (k + 1)) G W d_law_fewest [mvD ms, inL ps, spD' sp] = _
  have hwhl : PV.exec (CC (k + 1)) G W (.whl (.bl true) (.cons (.for_ (.one 8) (.itr (.var 6)) lp1) (.cons (.set 9 (.lst .nil)) (.cons (.for_ (.one 8) (.itr (.var 6)) lp2) (.cons (.set 6 (.var 9)) (.cons (.set 7 (.bin .add (.var 7) (.int 1))) .nil)))))) (envF ms ps sp P [P] 1 [P] 0 none none none none none) = some (.rt 0 (.int (M : Nat))) := by
    refine whl_rule (P := fun o => o = some (.rt 0 (.int (M : Nat)))) (fun m ρ => ∃ cc : Nat, ∃ Z F k6 x8 x9 x11 x12 x13, m + cc = M ∧ (∀ h ∈ F, Rc P sp.isNone cc h) ∧ (∀ h ∈ Z, Rc P sp.isNone cc h) ∧ (∀ h, Rc P sp.isNone cc h → h ∈ Z) ∧ (∀ h, Rc P sp.isNone cc h → (∃ c' < cc, Rc P sp.isNone c' h) ∨ h ∈ F) ∧ Z.Nodup ∧ ρ = envF ms ps sp P Z k6 F (cc : Nat) x8 x9 x11 x12 x13) ?_ W M _ (by show M < 1000000; omega) ⟨0, [P], [P], 1, none, none, none, none, none, rfl, ?_, ?_, ?_, ?_, by simp, rfl⟩
    · rintro m ρ ⟨cc, Z, F, k6, x8, x9, x11, x12, x13, e, hF, hZ, hZ', hF', zd, rfl⟩
      refine .inr ⟨rfl, ?_⟩
      have fz6 : ∀ {Z : List (List Int)} {x8 x9 x11 x12 x13 : Option (Nat × D)} {k6 : Nat}, freeze (fv (.itr (.var 6))) 0 (envF ms ps sp P Z k6 F (cc : Nat) x8 x9 x11 x12 x13) = envF ms ps sp P Z 0 F (cc : Nat) x8 x9 x11 x12 x13 := fun {Z x8 x9 x11 x12 x13 k6} => by
        cases x8 <;> cases x9 <;> cases x11 <;> cases x12 <;> cases x13 <;> rfl
      have f1 : ∀ {Z : List (List Int)} {x8 x9 x11 x12 x13 : Option (Nat × D)} {k6 : Nat} {b : Sta}, PV.exec (CC (k + 1)) G W (.for_ (.one 8) (.itr (.var 6)) b) (envF ms ps sp P Z k6 F (cc : Nat) x8 x9 x11 x12 x13) = forL (.one 8) (fun r => PV.exec (CC (k + 1)) G W b r) (F.map tupI) (envF ms ps sp P Z 0 F (cc : Nat) x8 x9 x11 x12 x13) := fun {Z x8 x9 x11 x12 x13 k6 b} => by
        have g6 := exp_get (m := fv (.itr (.var 6))) (i := 0) (j := 6) (ρ := envF ms ps sp P Z k6 F (cc : Nat) x8 x9 x11 x12 x13) rfl (.inr (by decide))
        rw [ex_for (ds := F.map tupI) ?_ ?_, fz6]
        · unfold isDicE
          simp only [ev, g6]
          rfl
        · simp only [evI, ev, g6]
          rfl
      rcases look_ok (ms := ms) (ps := ps) (sp := sp) (P := P) (Z := Z) (F := F) (k6 := 0) (c := (cc : Nat)) (x13 := x13) (x9 := x9) (k + 1) hmP hps (by omega) F x8 x11 x12 (fun h hh => by
        obtain ⟨rs, _, _, e⟩ := hF h hh
        exact ⟨_, e⟩) with ⟨⟨st, h1, h2⟩, h3⟩ | ⟨h1, y8, y11, y12, h2⟩
      · refine .inr ⟨0, .int (M : Nat), ?_, rfl⟩
        have := low cc st (hF _ h1) h2
        have ec : cc = M := by omega
        subst ec
        exact ex_rt (f1.trans h3)
      · left
        have hlt : cc < M := by
          refine Nat.lt_of_le_of_ne (by omega) fun ec => ?_
          subst ec
          obtain ⟨st, u1, u2⟩ := up
          rcases hF' _ u1 with ⟨c', hc', hr⟩ | hr
          · have := low c' st hr u2
            omega
          · rw [h1 st hr] at u2; cases u2
        obtain ⟨N, z8, z13, n1, n2, n3, n4⟩ := outer_ok (ms := ms) (ps := ps) (sp := sp) (P := P) (F := F) (k6 := 0) (c := (cc : Nat)) (x11 := y11) (x12 := y12) k ndP hP (cc := cc) (Z0 := Z) F [] y8 x13 ⟨by simpa using zd, fun h hh => rc_mono (hZ h (by simpa using hh)) (Nat.le_succ _)⟩ hF
        rw [List.append_nil] at n4
        refine ⟨envF ms ps sp P (Z ++ N) 0 N ((cc + 1 : Nat) : Int) z8 (some (0, hsL N)) y11 y12 z13, m - 1, by omega, ⟨cc + 1, Z ++ N, N, 0, z8, some (0, hsL N), y11, y12, z13, by omega, fun h hh => n1.rc h (List.mem_append_right _ hh), n1.rc, fun h hh => ?_, fun h hh => ?_, n1.nd, rfl⟩, ?_⟩
        · rcases rc_succ ndP hh with q | ⟨g, g1, g2⟩
          · exact List.mem_append_left _ (hZ' h q)
          · rcases hF' g g1 with ⟨c', hc', hr⟩ | hr
            · exact List.mem_append_left _ (hZ' h (rc_mono (rc_step ndP hr g2) (by omega)))
            · exact n3 g hr h g2
        · by_cases q : Rc P sp.isNone cc h
          · exact .inl ⟨cc, Nat.lt_succ_self _, q⟩
          · right
            have hin : h ∈ Z ++ N := by
              rcases rc_succ ndP hh with q' | ⟨g, g1, g2⟩
              · exact absurd q' q
              · rcases hF' g g1 with ⟨c', hc', hr⟩ | hr
                · exact List.mem_append_left _ (hZ' h (rc_mono (rc_step ndP hr g2) (by omega)))
                · exact n3 g hr h g2
            rcases List.mem_append.mp hin with z | z
            · exact absurd (hZ h z) q
            · exact z
        · have s9 : PV.exec (CC (k + 1)) G W (.set 9 (.lst .nil)) (envF ms ps sp P Z 0 F (cc : Nat) y8 x9 y11 y12 x13) = some (.nx (envF ms ps sp P Z 0 F (cc : Nat) y8 (some (1, hsL [])) y11 y12 x13)) := ex_set (i := 9) (k := 1) (d := hsL []) (evS_ns rfl rfl)
          have s6 : PV.exec (CC (k + 1)) G W (.set 6 (.var 9)) (envF ms ps sp P (Z ++ N) 0 F (cc : Nat) z8 (some (1, hsL N)) y11 y12 z13) = some (.nx (envF ms ps sp P (Z ++ N) 0 N (cc : Nat) z8 (some (0, hsL N)) y11 y12 z13)) := by
            have he : ev (CC (k + 1)) G (.var 9) (expose (fv (.var 9)) 0 (envF ms ps sp P (Z ++ N) 0 F (cc : Nat) z8 (some (1, hsL N)) y11 y12 z13)) = some (0, hsL N) := by
              simp only [ev, exp_get (m := fv (.var 9)) (i := 0) (j := 9) (k := 1) (d := hsL N) (ρ := envF ms ps sp P (Z ++ N) 0 F (cc : Nat) z8 (some (1, hsL N)) y11 y12 z13) rfl (.inr (by decide))]
            have hfz : freeze (fv (.var 9)) 0 (envF ms ps sp P (Z ++ N) 0 F (cc : Nat) z8 (some (1, hsL N)) y11 y12 z13) = envF ms ps sp P (Z ++ N) 0 F (cc : Nat) z8 (some (0, hsL N)) y11 y12 z13 := by
              cases z8 <;> cases y11 <;> cases y12 <;> cases z13 <;> rfl
            have := ex_set (C := CC (k + 1)) (G := G) (w := W) (i := 6) (evS_fz he rfl)
            rw [hfz] at this
            exact this
          have s7 : PV.exec (CC (k + 1)) G W (.set 7 (.bin .add (.var 7) (.int 1))) (envF ms ps sp P (Z ++ N) 0 N (cc : Nat) z8 (some (0, hsL N)) y11 y12 z13) = some (.nx (envF ms ps sp P (Z ++ N) 0 N ((cc + 1 : Nat) : Int) z8 (some (0, hsL N)) y11 y12 z13)) := by
            refine ex_set (i := 7) (k := 0) (d := .int ((cc + 1 : Nat) : Int)) (evS_ns ?_ rfl)
            simp only [ev, exp_get (m := fv (.bin .add (.var 7) (.int 1))) (i := 0) (j := 7) (k := 0) (d := .int (cc : Nat)) (ρ := envF ms ps sp P (Z ++ N) 0 N (cc : Nat) z8 (some (0, hsL N)) y11 y12 z13) rfl (.inl rfl), add_c]
            rfl
          exact (ex_nx (f1.trans h2)).trans ((ex_nx s9).trans ((ex_nx (f1.trans n4)).trans ((ex_nx s6).trans ((ex_nx s7).trans rfl))))
    · intro h hh
      have : h = P := by simpa using hh
      exact ⟨[], Nat.le_refl _, (fun _ h => nomatch h), by rw [this]; exact (List.map_id P).symm⟩
    · intro h hh
      have : h = P := by simpa using hh
      exact ⟨[], Nat.le_refl _, (fun _ h => nomatch h), by rw [this]; exact (List.map_id P).symm⟩
    · rintro h ⟨rs, h1, _, rfl⟩
      have : rs = [] := List.eq_nil_of_length_eq_zero (Nat.le_zero.mp h1)
      subst this
      have : P.map (run [] id) = P := List.map_id P
      rw [this]; simp
    · rintro h ⟨rs, h1, _, rfl⟩
      have : rs = [] := List.eq_nil_of_length_eq_zero (Nat.le_zero.mp h1)
      subst this
      have : P.map (run [] id) = P := List.map_id P
      rw [this]; simp
  unfold runD
  have : PV.exec (CC (k + 1)) G W d_law_fewest.body (env0 d_law_fewest.N [mvD ms, inL ps, spD' sp]) = some (.rt 0 (.int (M : Nat))) := by
    have s3 := some_ev (C := CC (k + 1)) (ρ := [some (mvD ms), some (inL ps), some (spD' sp), none, none, none, none, none, none, none, none, none, none, none, none, none, none]) (i := 1) (j := 2) (ps := ps) (sp := sp) rfl rfl (by omega)
    rw [hPP] at s3
    refine (ex_nx (ex_set (i := 3) (evS_ns s3 (nosh_in _)))).trans ?_
    have s4 : ev (CC (k + 1)) G (.lc [10] (.one 10) (.itr (.var 0)) .yes (.idx (.var 10) (.int 0))) [some (mvD ms), some (inL ps), some (spD' sp), none, none, none, none, none, none, none, none, none, none, none, none, none, none] = some (1, inL (ms.map (·.1))) := by
      rw [show inL (ms.map (·.1)) = .lst (ms.map fun p => .int p.1) by simp [inL]]
      exact ev_lc (ds := ms.map pr) rfl (lc_all (tg := .one 10) pr (fun p => .int p.1) fun p _ => ⟨_, rfl, 0, rfl⟩)
    refine (ex_nx (ex_set (i := 4) (evS_ns s4 (nosh_in _)))).trans ?_
    have s5 : ev (CC (k + 1)) G (.dpair (.blt .tuple (.var 3)) (.bl true)) [some (mvD ms), some (inL ps), some (spD' sp), some (inL P), none, none, none, none, none, none, none, none, none, none, none, none, none] = some (1, zD [P]) := by
      show (match keysOf (P.map D.int) with
        | some k => some (1, D.dicT [(k, .bl true)])
        | none => none) = _
      rw [keys_int]; rfl
    refine (ex_nx (ex_set (i := 5) (evS_ns s5 (nosh_z _)))).trans ?_
    have s6 : ev (CC (k + 1)) G (.lst (.cons (.blt .tuple (.var 3)) .nil)) [some (mvD ms), some (inL ps), some (spD' sp), some (inL P), none, none, none, none, none, none, none, none, none, none, none, none, none] = some (1, hsL [P]) := rfl
    refine (ex_nx (ex_set (i := 6) (evS_ns s6 (nosh_hs _)))).trans ?_
    refine (ex_nx (ex_set (i := 7) (k := 0) (d := .int 0) (evS_ns rfl rfl))).trans ?_
    exact ex_rt hwhl
  rw [this]
end
end K7

set_option Elab.async false
set_option linter.all false
set_option maxRecDepth 100000
set_option maxHeartbeats 4000000
/-! k07, part Ze: as few as can be. -/
namespace K7
open PySem PySem.Spec PyProof.Rows L2 PV
section
variable {ms : List (Int × Int)} {ps : List Int} {sp : Option Int}
theorem allP_get {i : Nat} (hi : i < ps.length) : (allP ps sp).getD i 0 = ps[i] := by
  cases sp with
  | none =>
    show ps.getD i 0 = _
    rw [List.getD_eq_getElem?_getD, List.getElem?_eq_getElem hi]; rfl
  | some s =>
    show (ps ++ [s]).getD i 0 = _
    rw [List.getD_eq_getElem?_getD, List.getElem?_append_left hi, List.getElem?_eq_getElem hi]; rfl
theorem goalB_iff {st : Int → Int} : goalB ms ps (allP ps sp) st = true ↔ (∀ p ∈ ms, st p.1 = p.2) ∧ ∀ x ∈ ps, x ∉ ms.map (·.1) → st x = x := by
  unfold goalB
  rw [Bool.and_eq_true, List.all_eq_true, List.all_eq_true]
  constructor
  · rintro ⟨h1, h2⟩
    refine ⟨fun p hp => of_decide_eq_true (h1 p hp), fun x hx hn => ?_⟩
    obtain ⟨i, hi, rfl⟩ := List.mem_iff_getElem.mp hx
    have := of_decide_eq_true (h2 (i : Nat) (List.mem_filter.mpr ⟨List.mem_map.mpr ⟨i, List.mem_range.mpr hi, rfl⟩, decide_eq_true (by
      rw [show ((i : Nat) : Int).toNat = i from rfl, allP_get hi]; exact hn)⟩))
    rwa [show ((i : Nat) : Int).toNat = i from rfl, allP_get hi] at this
  · rintro ⟨h1, h2⟩
    refine ⟨fun p hp => decide_eq_true (h1 p hp), fun q hq => decide_eq_true ?_⟩
    obtain ⟨h3, h4⟩ := List.mem_filter.mp hq
    obtain ⟨i, hi, rfl⟩ := List.mem_map.mp h3
    have hi := List.mem_range.mp hi
    have h4 := of_decide_eq_true h4
    rw [show ((i : Nat) : Int).toNat = i from rfl, allP_get hi] at h4 ⊢
    exact h2 _ (List.getElem_mem hi) h4
theorem fewest_fin (k : Nat) {R0 : List (List Int)} {rs : List Rw} (F : Fin (left0 ms) sp R0 rs) (hR : RSeq (left0 ms) [] (left0 ms) R0) (nd : (allP ps sp).Nodup) (h5 : (allP ps sp).length ≤ 5) (g : (ms.map (·.1)).Nodup) (hin : ∀ p ∈ ms, p.1 ∈ ps ∧ p.2 ∈ ps) :
    CC (k + 2) "_law_fewest" [mvD ms, inL ps, spD' sp] [] [] = some (0, .int (rs.length : Nat)) := by
  have rg := right_of F nd (by omega) g hin
  have nd0 : (keys (left0 ms)).Nodup := ((List.filter_sublist (l := ms)).map _).nodup g
  have hne : ∀ x y, (x, y) ∈ left0 ms → x ≠ y := fun x y h => of_decide_eq_true (List.mem_filter.mp h).2
  have hmem : ∀ x y, (x, y) ∈ left0 ms → (x, y) ∈ ms := fun x y h => (List.mem_filter.mp h).1
  refine fewest_ok k nd h5 (fun p hp => (hin p hp).1) (by have := F.small; omega) (fun c st hc hg => ?_) ⟨run rs id, ⟨rs, Nat.le_refl _, fun r hr => ⟨(rg.rows r hr).1, fun z => (rg.rows r hr).2 (fun e => by rw [e] at z; cases z)⟩, rfl⟩, goalB_iff.mpr ⟨fun p hp => (rg.goal p hp).2, rg.stay⟩⟩
  obtain ⟨rs', h1, h2, h3⟩ := hc
  obtain ⟨g1, g2⟩ := goalB_iff.mp hg
  have hst : ∀ x ∈ allP ps sp, st x = run rs' id x := fun x hx => by
    obtain ⟨i, hi, rfl⟩ := List.mem_iff_getElem.mp hx
    have h4 : ((allP ps sp).map st).getD i 0 = ((allP ps sp).map (run rs' id)).getD i 0 := by rw [h3]
    rwa [map_getD st hi, map_getD (run rs' id) hi] at h4
  have hg' : ∀ x y, (x, y) ∈ left0 ms → run rs' id x = y := fun x y h => by
    rw [← hst x (allP_sub (hin _ (hmem x y h)).1)]
    exact g1 (x, y) (hmem x y h)
  cases sp with
  | none =>
    have := low_swaps (P := ps) nd0 hR nd (fun x hx => by
      obtain ⟨y, hy⟩ := mem_key hx
      exact (hin _ (hmem x y hy)).1) (fun y hy => by
      obtain ⟨x, hx⟩ := mem_val hy
      exact (hin _ (hmem x y hx)).2) (fun r hr => (h2 r hr).1) hg'
    have hl : rs.length + R0.length + 0 = (left0 ms).length := F.len
    omega
  | some s =>
    have ndp : ps.Nodup := (List.nodup_append.mp nd).1
    have := low_moves (ps := ps) nd0 hne ndp hR (fun x hx => by
      obtain ⟨y, hy⟩ := mem_key hx
      exact (hin _ (hmem x y hy)).1) (fun r hr => (h2 r hr).2 rfl) hg' (fun x hx hn => by
      rw [← hst x (allP_sub hx)]
      by_cases hm : x ∈ ms.map (·.1)
      · obtain ⟨p, hp, e⟩ := List.mem_map.mp hm
        have hs := g1 p hp
        by_cases e2 : p.1 = p.2
        · rw [← e, hs, ← e2]
        · exact absurd (List.mem_map.mpr ⟨p, List.mem_filter.mpr ⟨hp, decide_eq_true e2⟩, e⟩) hn
      · exact g2 x hx hm)
    have hl : rs.length + 0 = (left0 ms).length + pureC (left0 ms) R0 := F.len
    omega
end
end K7

set_option Elab.async false
set_option linter.all false
set_option maxRecDepth 100000
set_option maxHeartbeats 4000000
/-! k07, part Zf: law. -/
namespace K7
open PySem PySem.Spec PyProof.Rows L2 PV
def few : List Int := [0, 5, 7, 99]
def many : List Int := [0, 7, 14, 21, 28, 35, 50, 60, 98, 99, 11, 12]
abbrev envX (ns : List Int) (x2 x3 x4 x5 x6 x7 x8 x9 x10 : Option (Nat × D)) : PV.Env := [some (0, .rol ns), some (1, inL few), x2, x3, x4, x5, x6, x7, x8, x9, x10]
theorem len_rows (rs : List Rw) : bltD .len (rowsD rs) = some (0, .int (rs.length : Nat)) := by
  show some (0, D.int ((rs.map rwD).length : Nat)) = _
  rw [List.length_map]
theorem good_of {ms : List (Int × Int)} {ps : List Int} {sp : Option Int} (hl : ms.length ≤ 10) (nd : (ms.map (·.1)).Nodup) (hin : ∀ p ∈ ms, p.1 ∈ ps ∧ p.2 ∈ ps) (hr : ∀ x ∈ ps, 0 ≤ x ∧ x ≤ 99) (hs : ∀ s, sp = some s → (0 ≤ s ∧ s ≤ 99) ∧ s ∉ ps) : Good sp ms where
  few := hl
  rng := fun p hp => ⟨hr _ (hin p hp).1, hr _ (hin p hp).2⟩
  nd := nd
  sp := fun s e => ⟨(hs s e).1, fun z => by
    obtain ⟨p, hp, e2⟩ := List.mem_map.mp z
    exact (hs s e).2 (e2 ▸ (hin p hp).1), fun z => by
    obtain ⟨p, hp, e2⟩ := List.mem_map.mp z
    exact (hs s e).2 (e2 ▸ (hin p hp).2)⟩
/-! ### few places -/
def spB : Sta := (.cons (.set 7 (.ife (.cmp .isnot (.var 6) .non) (.call "together" (.cons (.var 5) .nil) ["spare"] (.cons (.var 6) .nil)) (.call "together" (.cons (.var 5) .nil) [] .nil)))
    (.cons (.ite (.or_ (.cmp .ne (.var 5) (.var 4)) (.nt (.call "_law_right" (.cons (.var 4) (.cons (.var 1) (.cons (.var 6) (.cons (.var 7) .nil)))) [] .nil))) (.cons (.ret (.bl false))
    .nil) .nil)
    (.cons (.ite (.cmp .ne (.blt .len (.var 7)) (.call "_law_fewest" (.cons (.var 4) (.cons (.var 1) (.cons (.var 6) .nil))) [] .nil)) (.cons (.ret (.bl false))
    .nil) .nil)
    .nil)))
theorem spB_ok {ns : List Int} {ms : List (Int × Int)} {x2 x7 : Option (Nat × D)} (sp : Option Int) (hl : ms.length ≤ 4) (nd : (ms.map (·.1)).Nodup) (hin : ∀ p ∈ ms, p.1 ∈ few ∧ p.2 ∈ few) (hs : sp = none ∨ sp = some 3) :
    ∃ y7, PV.exec (CC 3) G W spB (envX ns x2 none (some (1, mvD ms)) (some (1, mvD ms)) (some (0, spD' sp)) x7 none none none) = some (.nx (envX ns x2 none (some (1, mvD ms)) (some (1, mvD ms)) (some (0, spD' sp)) y7 none none none)) := by
  have g : Good sp ms := good_of (ps := few) (by omega) nd hin (by decide) fun s e => by
    rcases hs with h | h
    · rw [h] at e; cases e
    · rw [h] at e; cases e; decide
  have hP : (allP few sp).Nodup ∧ (allP few sp).length ≤ 5 := by
    rcases hs with h | h <;> subst h <;> decide
  obtain ⟨R, hR, _⟩ := rings_ok 0 nd (by omega)
  obtain ⟨rs, F, hrun⟩ := together_fin 0 g hR
  have hto : ev (CC 3) G (.ife (.cmp .isnot (.var 6) .non) (.call "together" (.cons (.var 5) .nil) ["spare"] (.cons (.var 6) .nil)) (.call "together" (.cons (.var 5) .nil) [] .nil)) (expose (fv (.ife (.cmp .isnot (.var 6) .non) (.call "together" (.cons (.var 5) .nil) ["spare"] (.cons (.var 6) .nil)) (.call "together" (.cons (.var 5) .nil) [] .nil))) 0 (envX ns x2 none (some (1, mvD ms)) (some (1, mvD ms)) (some (0, spD' sp)) x7 none none none)) = some (1, rowsD rs) := by
    have g5 := exp_get (m := fv (.ife (.cmp .isnot (.var 6) .non) (.call "together" (.cons (.var 5) .nil) ["spare"] (.cons (.var 6) .nil)) (.call "together" (.cons (.var 5) .nil) [] .nil))) (i := 0) (j := 5) (ρ := envX ns x2 none (some (1, mvD ms)) (some (1, mvD ms)) (some (0, spD' sp)) x7 none none none) rfl (.inr (by decide))
    have g6 := exp_get (m := fv (.ife (.cmp .isnot (.var 6) .non) (.call "together" (.cons (.var 5) .nil) ["spare"] (.cons (.var 6) .nil)) (.call "together" (.cons (.var 5) .nil) [] .nil))) (i := 0) (j := 6) (ρ := envX ns x2 none (some (1, mvD ms)) (some (1, mvD ms)) (some (0, spD' sp)) x7 none none none) rfl (.inl rfl)
    simp only [ev, evs, g5, g6, cmpD]
    cases sp with
    | none => exact hrun
    | some s => exact hrun
  have s7 := ex_set (w := W) (i := 7) (evS_ns hto (nosh_rows rs))
  refine ⟨some (1, rowsD rs), (ex_nx s7).trans ?_⟩
  show PV.exec (CC 3) G W _ (envX ns x2 none (some (1, mvD ms)) (some (1, mvD ms)) (some (0, spD' sp)) (some (1, rowsD rs)) none none none) = _
  have hrg := right_ok 1 (right_of F hP.1 (by omega) nd hin)
  have hfw := fewest_fin 1 F hR hP.1 hP.2 nd hin
  have b1 : evB (CC 3) G (.or_ (.cmp .ne (.var 5) (.var 4)) (.nt (.call "_law_right" (.cons (.var 4) (.cons (.var 1) (.cons (.var 6) (.cons (.var 7) .nil)))) [] .nil))) (envX ns x2 none (some (1, mvD ms)) (some (1, mvD ms)) (some (0, spD' sp)) (some (1, rowsD rs)) none none none) = some false := by
    refine evB_of (k := 0) ?_
    have gg : ∀ j k d, (envX ns x2 none (some (1, mvD ms)) (some (1, mvD ms)) (some (0, spD' sp)) (some (1, rowsD rs)) none none none)[j]? = some (some (k, d)) → (k = 0 ∨ (0 + j) ∈ fv (.or_ (.cmp .ne (.var 5) (.var 4)) (.nt (.call "_law_right" (.cons (.var 4) (.cons (.var 1) (.cons (.var 6) (.cons (.var 7) .nil)))) [] .nil)))) → _ := fun j k d => exp_get
    have g1 := gg 1 1 _ rfl (.inr (by decide))
    have g4 := gg 4 1 _ rfl (.inr (by decide))
    have g5 := gg 5 1 _ rfl (.inr (by decide))
    have g6 := gg 6 0 _ rfl (.inl rfl)
    have g7 := gg 7 1 _ rfl (.inr (by decide))
    simp only [ev, evs, g1, g4, g5, g6, g7, cmpD, eqd_mv_self, Option.map_some, Bool.not_true]
    rw [hrg]
    rfl
  have b2 : evB (CC 3) G (.cmp .ne (.blt .len (.var 7)) (.call "_law_fewest" (.cons (.var 4) (.cons (.var 1) (.cons (.var 6) .nil))) [] .nil)) (envX ns x2 none (some (1, mvD ms)) (some (1, mvD ms)) (some (0, spD' sp)) (some (1, rowsD rs)) none none none) = some false := by
    refine evB_of (k := 0) ?_
    have gg : ∀ j k d, (envX ns x2 none (some (1, mvD ms)) (some (1, mvD ms)) (some (0, spD' sp)) (some (1, rowsD rs)) none none none)[j]? = some (some (k, d)) → (k = 0 ∨ (0 + j) ∈ fv (.cmp .ne (.blt .len (.var 7)) (.call "_law_fewest" (.cons (.var 4) (.cons (.var 1) (.cons (.var 6) .nil))) [] .nil))) → _ := fun j k d => exp_get
    have g1 := gg 1 1 _ rfl (.inr (by decide))
    have g4 := gg 4 1 _ rfl (.inr (by decide))
    have g6 := gg 6 0 _ rfl (.inl rfl)
    have g7 := gg 7 1 _ rfl (.inr (by decide))
    simp only [ev, evs, g1, g4, g6, g7, len_rows]
    rw [hfw]
    simp only [cmpD, eqd_int]
    simp
  exact (ex_nx ((ex_false b1).trans rfl)).trans ((ex_nx ((ex_false b2).trans rfl)).trans rfl)
def fewB : Sta := (.cons (.set 4 (.call "_law_moves" (.cons (.call "_law_cell_at" (.cons (.var 0) (.cons (.var 2) .nil)) [] .nil) (.cons (.int 4) (.cons (.var 1) .nil))) [] .nil))
    (.cons (.set 5 (.blt .list (.var 4)))
    (.cons (.for_ (.one 6) (.itn (.lst (.cons .non (.cons (.int 3) .nil)))) spB)
    .nil)))
theorem fewB_ok {ns : List Int} {j : Nat} {x4 x5 x6 x7 : Option (Nat × D)} : ∃ y4 y5 y6 y7, PV.exec (CC 3) G W fewB (envX ns (some (0, .int (j : Nat))) none x4 x5 x6 x7 none none none) = some (.nx (envX ns (some (0, .int (j : Nat))) none y4 y5 y6 y7 none none none)) := by
  obtain ⟨c, hc⟩ := cell_ok 2 ns j
  obtain ⟨ms, h1, h2, h3, h4⟩ := moves_ok 1 c 4 few (by decide) (by decide) (by decide)
  have s4 : PV.exec (CC 3) G W (.set 4 (.call "_law_moves" (.cons (.call "_law_cell_at" (.cons (.var 0) (.cons (.var 2) .nil)) [] .nil) (.cons (.int 4) (.cons (.var 1) .nil))) [] .nil)) (envX ns (some (0, .int (j : Nat))) none x4 x5 x6 x7 none none none) = some (.nx (envX ns (some (0, .int (j : Nat))) none (some (1, mvD ms)) x5 x6 x7 none none none)) := by
    refine ex_set (i := 4) (evS_ns ?_ (nosh_mv ms))
    have gg : ∀ j' k d, (envX ns (some (0, .int (j : Nat))) none x4 x5 x6 x7 none none none)[j']? = some (some (k, d)) → (k = 0 ∨ (0 + j') ∈ fv (.call "_law_moves" (.cons (.call "_law_cell_at" (.cons (.var 0) (.cons (.var 2) .nil)) [] .nil) (.cons (.int 4) (.cons (.var 1) .nil))) [] .nil)) → _ := fun j k d => exp_get
    have g0 := gg 0 0 _ rfl (.inl rfl)
    have g1 := gg 1 1 _ rfl (.inr (by decide))
    have g2 := gg 2 0 _ rfl (.inl rfl)
    simp only [ev, evs, g0, g1, g2]
    rw [hc]
    exact h4
  have s5 : PV.exec (CC 3) G W (.set 5 (.blt .list (.var 4))) (envX ns (some (0, .int (j : Nat))) none (some (1, mvD ms)) x5 x6 x7 none none none) = some (.nx (envX ns (some (0, .int (j : Nat))) none (some (1, mvD ms)) (some (1, mvD ms)) x6 x7 none none none)) := by
    refine ex_set (i := 5) (evS_ns (k := 1) (d := mvD ms) ?_ (nosh_mv ms))
    have g4 := exp_get (m := fv (.blt .list (.var 4))) (i := 0) (j := 4) (ρ := envX ns (some (0, .int (j : Nat))) none (some (1, mvD ms)) x5 x6 x7 none none none) rfl (.inr (by decide))
    simp only [ev, g4]
    rfl
  obtain ⟨y7, a1⟩ := spB_ok (ns := ns) (x2 := some (0, .int (j : Nat))) (x7 := x7) none h1 h2 h3 (.inl rfl)
  obtain ⟨z7, a2⟩ := spB_ok (ns := ns) (x2 := some (0, .int (j : Nat))) (x7 := y7) (some 3) h1 h2 h3 (.inr rfl)
  have hfz : ∀ x6 x7, freeze (fv (.itn (.lst (.cons .non (.cons (.int 3) .nil))))) 0 (envX ns (some (0, .int (j : Nat))) none (some (1, mvD ms)) (some (1, mvD ms)) x6 x7 none none none) = envX ns (some (0, .int (j : Nat))) none (some (1, mvD ms)) (some (1, mvD ms)) x6 x7 none none none := fun x6 x7 => by
    cases x6 <;> cases x7 <;> rfl
  have f : PV.exec (CC 3) G W (.for_ (.one 6) (.itn (.lst (.cons .non (.cons (.int 3) .nil)))) spB) (envX ns (some (0, .int (j : Nat))) none (some (1, mvD ms)) (some (1, mvD ms)) x6 x7 none none none) = some (.nx (envX ns (some (0, .int (j : Nat))) none (some (1, mvD ms)) (some (1, mvD ms)) (some (0, .int 3)) z7 none none none)) := by
    rw [ex_for (ds := [.non, .int 3]) rfl rfl, hfz]
    unfold forL
    show (match PV.exec (CC 3) G W spB (envX ns (some (0, .int (j : Nat))) none (some (1, mvD ms)) (some (1, mvD ms)) (some (0, .non)) x7 none none none) with
      | some (Out.nx ρ2) => forL (.one 6) (fun r => PV.exec (CC 3) G W spB r) [.int 3] ρ2
      | some (Out.ct ρ2) => forL (.one 6) (fun r => PV.exec (CC 3) G W spB r) [.int 3] ρ2
      | some (Out.br ρ2) => some (Out.nx ρ2)
      | some (Out.rt k d) => some (Out.rt k d)
      | none => none) = _
    rw [show spD' none = D.non from rfl] at a1
    rw [a1]
    dsimp only
    unfold forL
    show (match PV.exec (CC 3) G W spB (envX ns (some (0, .int (j : Nat))) none (some (1, mvD ms)) (some (1, mvD ms)) (some (0, .int 3)) y7 none none none) with
      | some (Out.nx ρ2) => forL (.one 6) (fun r => PV.exec (CC 3) G W spB r) [] ρ2
      | some (Out.ct ρ2) => forL (.one 6) (fun r => PV.exec (CC 3) G W spB r) [] ρ2
      | some (Out.br ρ2) => some (Out.nx ρ2)
      | some (Out.rt k d) => some (Out.rt k d)
      | none => none) = _
    rw [show spD' (some 3) = D.int 3 from rfl] at a2
    rw [a2]
    rfl
  exact ⟨_, _, _, _, (ex_nx s4).trans ((ex_nx s5).trans ((ex_nx f).trans rfl))⟩
end K7

set_option Elab.async false
set_option linter.all false
set_option maxRecDepth 100000
set_option maxHeartbeats 4000000
/-! k07, part Zg: law, whole. -/
namespace K7
open PySem PySem.Spec PyProof.Rows L2 PV
abbrev envY (ns : List Int) (x2 x4 x5 x6 x7 x8 x9 x10 : Option (Nat × D)) : PV.Env := [some (0, .rol ns), some (1, inL few), x2, some (1, inL many), x4, x5, x6, x7, x8, x9, x10]
/-- together and the look at it, for a spare place or none -/
theorem many_sp {ns : List Int} {ms : List (Int × Int)} {x2 x5 x6 x7 : Option (Nat × D)} {a b c : Int} (sp : Option Int) (spE : Exp) (hsE : ∀ ρ, ev (CC 3) G spE ρ = some (0, spD' sp)) (R : List (List Int)) (hR : RSeq (left0 ms) [] (left0 ms) R) (hl : ms.length ≤ 10) (nd : (ms.map (·.1)).Nodup) (hin : ∀ p ∈ ms, p.1 ∈ many ∧ p.2 ∈ many) (hs : sp = none ∨ sp = some 70)
    (cmpE : Exp) (hcE : ∀ (rs : List Rw) (ρ : Ro), lenOk (left0 ms) R rs.length 0 sp → ρ[8]? = some (some (.int a)) → ρ[9]? = some (some (.int b)) → ρ[10]? = some (some (.int c)) → ev (CC 3) G cmpE ρ = some (0, .int (rs.length : Nat))) :
    ∃ y7, PV.exec (CC 3) G W (.cons (.set 7 (.call "together" (.cons (.var 4) .nil) ["spare"] (.cons spE .nil))) (.cons (.ite (.or_ (.nt (.call "_law_right" (.cons (.var 4) (.cons (.var 3) (.cons spE (.cons (.var 7) .nil)))) [] .nil)) (.cmp .ne (.blt .len (.var 7)) cmpE)) (.cons (.ret (.bl false)) .nil) .nil) .nil)) (envY ns x2 (some (1, mvD ms)) x5 x6 x7 (some (0, .int a)) (some (0, .int b)) (some (0, .int c))) = some (.nx (envY ns x2 (some (1, mvD ms)) x5 x6 y7 (some (0, .int a)) (some (0, .int b)) (some (0, .int c)))) := by
  have g : Good sp ms := good_of (ps := many) hl nd hin (by decide) fun s e => by
    rcases hs with h | h
    · rw [h] at e; cases e
    · rw [h] at e; cases e; decide
  have hP : (allP many sp).Nodup ∧ (allP many sp).length ≤ 100 := by
    rcases hs with h | h <;> subst h <;> decide
  obtain ⟨rs, F, hrun⟩ := together_fin 0 g hR
  have hrg := right_ok 1 (right_of F hP.1 hP.2 nd hin)
  have hto : CC 3 "together" [mvD ms] ["spare"] [spD' sp] = some (1, rowsD rs) := hrun
  refine ⟨some (1, rowsD rs), ?_⟩
  have s7 : PV.exec (CC 3) G W (.set 7 (.call "together" (.cons (.var 4) .nil) ["spare"] (.cons spE .nil))) (envY ns x2 (some (1, mvD ms)) x5 x6 x7 (some (0, .int a)) (some (0, .int b)) (some (0, .int c))) = some (.nx (envY ns x2 (some (1, mvD ms)) x5 x6 (some (1, rowsD rs)) (some (0, .int a)) (some (0, .int b)) (some (0, .int c)))) := by
    refine ex_set (i := 7) (evS_ns ?_ (nosh_rows rs))
    have g4 := exp_get (m := fv (.call "together" (.cons (.var 4) .nil) ["spare"] (.cons spE .nil))) (i := 0) (j := 4) (ρ := envY ns x2 (some (1, mvD ms)) x5 x6 x7 (some (0, .int a)) (some (0, .int b)) (some (0, .int c))) rfl (.inr (by simp [fv]))
    simp only [ev, evs, g4, hsE]
    exact hto
  refine (ex_nx s7).trans ?_
  have hb : evB (CC 3) G (.or_ (.nt (.call "_law_right" (.cons (.var 4) (.cons (.var 3) (.cons spE (.cons (.var 7) .nil)))) [] .nil)) (.cmp .ne (.blt .len (.var 7)) cmpE)) (envY ns x2 (some (1, mvD ms)) x5 x6 (some (1, rowsD rs)) (some (0, .int a)) (some (0, .int b)) (some (0, .int c))) = some false := by
    refine evB_of (k := 0) ?_
    have gg : ∀ j k d, (envY ns x2 (some (1, mvD ms)) x5 x6 (some (1, rowsD rs)) (some (0, .int a)) (some (0, .int b)) (some (0, .int c)))[j]? = some (some (k, d)) → (k = 0 ∨ (0 + j) ∈ fv (.or_ (.nt (.call "_law_right" (.cons (.var 4) (.cons (.var 3) (.cons spE (.cons (.var 7) .nil)))) [] .nil)) (.cmp .ne (.blt .len (.var 7)) cmpE))) → _ := fun j k d => exp_get
    have g4 := gg 4 1 _ rfl (.inr (by simp [fv]))
    have g3 := gg 3 1 _ rfl (.inr (by simp [fv]))
    have g7 := gg 7 1 _ rfl (.inr (by simp [fv]))
    have e1 : ev (CC 3) G (.nt (.call "_law_right" (.cons (.var 4) (.cons (.var 3) (.cons spE (.cons (.var 7) .nil)))) [] .nil)) (expose (fv (.or_ (.nt (.call "_law_right" (.cons (.var 4) (.cons (.var 3) (.cons spE (.cons (.var 7) .nil)))) [] .nil)) (.cmp .ne (.blt .len (.var 7)) cmpE))) 0 (envY ns x2 (some (1, mvD ms)) x5 x6 (some (1, rowsD rs)) (some (0, .int a)) (some (0, .int b)) (some (0, .int c)))) = some (0, .bl false) := by
      simp only [ev, evs, g4, g3, g7, hsE]
      rw [hrg]; rfl
    have e2 : ev (CC 3) G (.cmp .ne (.blt .len (.var 7)) cmpE) (expose (fv (.or_ (.nt (.call "_law_right" (.cons (.var 4) (.cons (.var 3) (.cons spE (.cons (.var 7) .nil)))) [] .nil)) (.cmp .ne (.blt .len (.var 7)) cmpE))) 0 (envY ns x2 (some (1, mvD ms)) x5 x6 (some (1, rowsD rs)) (some (0, .int a)) (some (0, .int b)) (some (0, .int c)))) = some (0, .bl false) := by
      have g8 := gg 8 0 _ rfl (.inl rfl)
      have g9 := gg 9 0 _ rfl (.inl rfl)
      have g10 := gg 10 0 _ rfl (.inl rfl)
      have hc := hcE rs _ F.len g8 g9 g10
      rw [ev, hc]
      simp only [ev, g7, len_rows, cmpD, eqd_int]
      simp
    rw [ev, e1]
    dsimp only
    rw [e2]
  exact (ex_nx ((ex_false hb).trans rfl)).trans rfl
def manyB : Sta := (.cons (.set 4 (.call "_law_moves" (.cons (.call "_law_cell_at" (.cons (.var 0) (.cons (.bin .add (.int 4) (.var 2)) .nil)) [] .nil) (.cons (.int 10) (.cons (.slc (.var 3) .nil (.itr (.bin .add (.int 3) (.bin .mod (.call "_law_cell_at" (.cons (.var 0) (.cons (.bin .add (.int 10) (.var 2)) .nil)) [] .nil) (.int 10))))) .nil))) [] .nil))
    (.cons (.unp [8, 9, 10] (.call "_law_rings" (.cons (.var 4) .nil) [] .nil))
    (.cons (.set 7 (.call "together" (.cons (.var 4) .nil) ["spare"] (.cons .non .nil)))
    (.cons (.ite (.or_ (.nt (.call "_law_right" (.cons (.var 4) (.cons (.var 3) (.cons .non (.cons (.var 7) .nil)))) [] .nil)) (.cmp .ne (.blt .len (.var 7)) (.bin .sub (.var 10) (.var 8)))) (.cons (.ret (.bl false))
    .nil) .nil)
    (.cons (.set 7 (.call "together" (.cons (.var 4) .nil) ["spare"] (.cons (.int 70) .nil)))
    (.cons (.ite (.or_ (.nt (.call "_law_right" (.cons (.var 4) (.cons (.var 3) (.cons (.int 70) (.cons (.var 7) .nil)))) [] .nil)) (.cmp .ne (.blt .len (.var 7)) (.bin .add (.var 10) (.var 9)))) (.cons (.ret (.bl false))
    .nil) .nil)
    .nil))))))
theorem two {a b r : Sta} {ρ ρ' : PV.Env} (h : PV.exec (CC 3) G W (.cons a (.cons b .nil)) ρ = some (.nx ρ')) : PV.exec (CC 3) G W (.cons a (.cons b r)) ρ = PV.exec (CC 3) G W r ρ' := by
  cases h1 : PV.exec (CC 3) G W a ρ with
  | none =>
    have : PV.exec (CC 3) G W (.cons a (.cons b .nil)) ρ = none := by
      show (match PV.exec (CC 3) G W a ρ with | some (.nx ρ') => PV.exec (CC 3) G W (.cons b .nil) ρ' | some o => some o | none => none) = none
      rw [h1]
    rw [this] at h; cases h
  | some o =>
    cases o with
    | nx ρ1 =>
      rw [ex_nx h1] at h ⊢
      cases h2 : PV.exec (CC 3) G W b ρ1 with
      | none =>
        have : PV.exec (CC 3) G W (.cons b .nil) ρ1 = none := by
          show (match PV.exec (CC 3) G W b ρ1 with | some (.nx ρ') => PV.exec (CC 3) G W .nil ρ' | some o => some o | none => none) = none
          rw [h2]
        rw [this] at h; cases h
      | some o2 =>
        have e : PV.exec (CC 3) G W (.cons b .nil) ρ1 = (match (some o2 : Option Out) with | some (.nx ρ') => PV.exec (CC 3) G W .nil ρ' | some o => some o | none => none) := by
          show (match PV.exec (CC 3) G W b ρ1 with | some (.nx ρ') => PV.exec (CC 3) G W .nil ρ' | some o => some o | none => none) = _
          rw [h2]
        rw [e] at h
        cases o2 with
        | nx ρ2 =>
          have : some (Out.nx ρ2) = some (Out.nx ρ') := h
          cases this
          exact ex_nx h2
        | rt k d => cases h
        | br ρ2 => cases h
        | ct ρ2 => cases h
    | rt k d => rw [ex_rt h1] at h; cases h
    | br ρ1 =>
      have : PV.exec (CC 3) G W (.cons a (.cons b .nil)) ρ = some (.br ρ1) := by
        show (match PV.exec (CC 3) G W a ρ with | some (.nx ρ') => PV.exec (CC 3) G W (.cons b .nil) ρ' | some o => some o | none => none) = _
        rw [h1]
      rw [this] at h; cases h
    | ct ρ1 =>
      have : PV.exec (CC 3) G W (.cons a (.cons b .nil)) ρ = some (.ct ρ1) := by
        show (match PV.exec (CC 3) G W a ρ with | some (.nx ρ') => PV.exec (CC 3) G W (.cons b .nil) ρ' | some o => some o | none => none) = _
        rw [h1]
      rw [this] at h; cases h
theorem manyB_ok {ns : List Int} {j : Nat} {x4 x5 x6 x7 x8 x9 x10 : Option (Nat × D)} : ∃ y4 y7 y8 y9 y10, PV.exec (CC 3) G W manyB (envY ns (some (0, .int (j : Nat))) x4 x5 x6 x7 x8 x9 x10) = some (.nx (envY ns (some (0, .int (j : Nat))) y4 x5 x6 y7 y8 y9 y10)) := by
  obtain ⟨c, hc⟩ := cell_ok 2 ns (4 + j)
  obtain ⟨d, hd⟩ := cell_ok 2 ns (10 + j)
  have d0 : 0 ≤ d % 10 := Int.emod_nonneg _ (by decide)
  have d1 : d % 10 < 10 := Int.emod_lt_of_pos _ (by decide)
  have hlt : (many.take (3 + (d % 10).toNat)).length = min (3 + (d % 10).toNat) 12 := by rw [List.length_take]; rfl
  obtain ⟨ms, h1, h2, h3, h4⟩ := moves_ok 1 c 10 (many.take (3 + (d % 10).toNat)) (by decide) (by rw [hlt]; omega) (by rw [hlt]; omega)
  have hin : ∀ p ∈ ms, p.1 ∈ many ∧ p.2 ∈ many := fun p hp => ⟨List.mem_of_mem_take (h3 p hp).1, List.mem_of_mem_take (h3 p hp).2⟩
  obtain ⟨R, hR, hrings⟩ := rings_ok 2 h2 h1
  have s4 : PV.exec (CC 3) G W (.set 4 (.call "_law_moves" (.cons (.call "_law_cell_at" (.cons (.var 0) (.cons (.bin .add (.int 4) (.var 2)) .nil)) [] .nil) (.cons (.int 10) (.cons (.slc (.var 3) .nil (.itr (.bin .add (.int 3) (.bin .mod (.call "_law_cell_at" (.cons (.var 0) (.cons (.bin .add (.int 10) (.var 2)) .nil)) [] .nil) (.int 10))))) .nil))) [] .nil)) (envY ns (some (0, .int (j : Nat))) x4 x5 x6 x7 x8 x9 x10) = some (.nx (envY ns (some (0, .int (j : Nat))) (some (1, mvD ms)) x5 x6 x7 x8 x9 x10)) := by
    refine ex_set (i := 4) (evS_ns ?_ (nosh_mv ms))
    have gg : ∀ j' k d, (envY ns (some (0, .int (j : Nat))) x4 x5 x6 x7 x8 x9 x10)[j']? = some (some (k, d)) → (k = 0 ∨ (0 + j') ∈ fv (.call "_law_moves" (.cons (.call "_law_cell_at" (.cons (.var 0) (.cons (.bin .add (.int 4) (.var 2)) .nil)) [] .nil) (.cons (.int 10) (.cons (.slc (.var 3) .nil (.itr (.bin .add (.int 3) (.bin .mod (.call "_law_cell_at" (.cons (.var 0) (.cons (.bin .add (.int 10) (.var 2)) .nil)) [] .nil) (.int 10))))) .nil))) [] .nil)) → _ := fun j k d => exp_get
    have g0 := gg 0 0 _ rfl (.inl rfl)
    have g2 := gg 2 0 _ rfl (.inl rfl)
    have g3 := gg 3 1 _ rfl (.inr (by decide))
    have hc' : CC 3 "_law_cell_at" [.rol ns, .int (4 + (j : Int))] [] [] = some (0, .int c) := by rw [show (4 + (j : Int)) = ((4 + j : Nat) : Int) by omega]; exact hc
    have hd' : CC 3 "_law_cell_at" [.rol ns, .int (10 + (j : Int))] [] [] = some (0, .int d) := by rw [show (10 + (j : Int)) = ((10 + j : Nat) : Int) by omega]; exact hd
    have hsl : slcD (inL many) none (some (3 + d % 10)) = some (1, inL (many.take (3 + (d % 10).toNat))) := by
      rw [show (3 + d % 10) = ((3 + (d % 10).toNat : Nat) : Int) by omega]
      exact slc_take _ _
    simp only [ev, evs, evO, g0, g2, g3, add_c, hc', hd', mod_c _ 10 (by decide), hsl]
    exact h4
  have s8 : PV.exec (CC 3) G W (.unp [8, 9, 10] (.call "_law_rings" (.cons (.var 4) .nil) [] .nil)) (envY ns (some (0, .int (j : Nat))) (some (1, mvD ms)) x5 x6 x7 x8 x9 x10) = some (.nx (envY ns (some (0, .int (j : Nat))) (some (1, mvD ms)) x5 x6 x7 (some (0, .int (R.length : Nat))) (some (0, .int (pureC (left0 ms) R : Nat))) (some (0, .int ((left0 ms).length : Nat))))) := by
    refine ex_unp (is := [8, 9, 10]) (evS_ns (k := 0) (d := .tup [.int (R.length : Nat), .int (pureC (left0 ms) R : Nat), .int ((left0 ms).length : Nat)]) ?_ rfl) rfl
    have g4 := exp_get (m := fv (.call "_law_rings" (.cons (.var 4) .nil) [] .nil)) (i := 0) (j := 4) (ρ := envY ns (some (0, .int (j : Nat))) (some (1, mvD ms)) x5 x6 x7 x8 x9 x10) rfl (.inr (by decide))
    simp only [ev, evs, g4]
    exact hrings
  obtain ⟨y7, a1⟩ := many_sp (ns := ns) (ms := ms) (x2 := some (0, .int (j : Nat))) (x5 := x5) (x6 := x6) (x7 := x7) (a := (R.length : Nat)) (b := (pureC (left0 ms) R : Nat)) (c := ((left0 ms).length : Nat)) none .non (fun ρ => by simp only [ev]; rfl) R hR h1 h2 hin (.inl rfl) (.bin .sub (.var 10) (.var 8)) (fun rs ρ hl g8 g9 g10 => by
    have hl : rs.length + R.length + 0 = (left0 ms).length := hl
    simp only [ev, g8, g10, binD]
    rw [show (((left0 ms).length : Nat) : Int) - ((R.length : Nat) : Int) = ((rs.length : Nat) : Int) by omega])
  obtain ⟨z7, a2⟩ := many_sp (ns := ns) (ms := ms) (x2 := some (0, .int (j : Nat))) (x5 := x5) (x6 := x6) (x7 := y7) (a := (R.length : Nat)) (b := (pureC (left0 ms) R : Nat)) (c := ((left0 ms).length : Nat)) (some 70) (.int 70) (fun ρ => by simp only [ev]; rfl) R hR h1 h2 hin (.inr rfl) (.bin .add (.var 10) (.var 9)) (fun rs ρ hl g8 g9 g10 => by
    have hl : rs.length + 0 = (left0 ms).length + pureC (left0 ms) R := hl
    simp only [ev, g9, g10, add_c]
    rw [show (((left0 ms).length : Nat) : Int) + ((pureC (left0 ms) R : Nat) : Int) = ((rs.length : Nat) : Int) by omega])
  exact ⟨_, _, _, _, _, (ex_nx s4).trans ((ex_nx s8).trans ((two a1).trans ((two a2).trans rfl)))⟩
def chk3 : Option (Nat × D) → Bool
  | some (_, .lst l) => l.length == 3
  | _ => false
def chk0 : Option (Nat × D) → Bool
  | some (_, .lst []) => true
  | _ => false
theorem of_chk3 {o : Option (Nat × D)} (h : chk3 o = true) : ∃ k l, o = some (k, .lst l) ∧ l.length = 3 := by
  unfold chk3 at h
  split at h
  · rename_i k l
    exact ⟨k, l, rfl, beq_iff_eq.mp h⟩
  · cases h
theorem of_chk0 {o : Option (Nat × D)} (h : chk0 o = true) : ∃ k, o = some (k, .lst []) := by
  unfold chk0 at h
  split at h
  · rename_i k
    exact ⟨k, rfl⟩
  · cases h
theorem c1 : chk3 (CC 3 "together" [mvD [(1, 2), (2, 1)]] ["spare"] [.int 0]) = true := by decide +kernel
theorem c2 : chk3 (CC 3 "together" [mvD [(98, 0), (0, 98)]] ["spare"] [.int 99]) = true := by decide +kernel
theorem c3 : chk0 (CC 3 "together" [mvD []] [] []) = true := by decide +kernel
theorem c4 : chk0 (CC 3 "together" [mvD [(3, 3)]] ["spare"] [.int 4]) = true := by decide +kernel
theorem law_ok (ns : List Int) : CC 4 "law" [.rol ns] [] [] = some (0, .bl true) := by
  show runD (CC 3) G W d_law [.rol ns] = _
  unfold runD
  have : PV.exec (CC 3) G W d_law.body (env0 d_law.N [.rol ns]) = some (.rt 0 (.bl true)) := by
    refine (ex_nx (ex_set (i := 1) (k := 1) (d := inL few) (evS_ns rfl rfl))).trans ?_
    have f1 : ∃ x2 x4 x5 x6 x7, PV.exec (CC 3) G W (.for_ (.one 2) (.rng (.int 2)) fewB) (envX ns none none none none none none none none none) = some (.nx (envX ns x2 none x4 x5 x6 x7 none none none)) := by
      rw [ex_for (ds := [.int (0 : Nat), .int (1 : Nat)]) rfl rfl]
      refine for_rule (tg := .one 2) (f := fun e => PV.exec (CC 3) G W fewB e) (P := fun o => ∃ x2 x4 x5 x6 x7, o = some (.nx (envX ns x2 none x4 x5 x6 x7 none none none))) (fun ds ρ => (∀ d ∈ ds, ∃ j : Nat, d = .int (j : Nat)) ∧ ∃ x2 x4 x5 x6 x7, ρ = envX ns x2 none x4 x5 x6 x7 none none none) ?_ ?_ _ _ ⟨fun d hd => ?_, none, none, none, none, none, rfl⟩
      · rintro ρ ⟨_, x2, x4, x5, x6, x7, rfl⟩
        exact ⟨x2, x4, x5, x6, x7, rfl⟩
      · rintro d ds ρ ⟨hj, x2, x4, x5, x6, x7, rfl⟩
        obtain ⟨j, rfl⟩ := hj d (List.mem_cons_self ..)
        obtain ⟨y4, y5, y6, y7, hx⟩ := fewB_ok (ns := ns) (j := j) (x4 := x4) (x5 := x5) (x6 := x6) (x7 := x7)
        exact ⟨_, rfl, .inl ⟨_, hx, fun d hd => hj d (List.mem_cons_of_mem _ hd), _, _, _, _, _, rfl⟩⟩
      · rcases List.mem_cons.mp hd with e | e
        · exact ⟨0, e⟩
        · exact ⟨1, by simpa using e⟩
    obtain ⟨x2, x4, x5, x6, x7, f1⟩ := f1
    refine (ex_nx f1).trans ?_
    have s3 : PV.exec (CC 3) G W (.set 3 (.bin .add (.lc [2] (.one 2) (.rng (.int 6)) .yes (.bin .mul (.int 7) (.var 2))) (.lst (.cons (.int 50) (.cons (.int 60) (.cons (.int 98) (.cons (.int 99) (.cons (.int 11) (.cons (.int 12) .nil))))))))) (envX ns x2 none x4 x5 x6 x7 none none none) = some (.nx (envY ns x2 x4 x5 x6 x7 none none none)) := by
      refine ex_set (i := 3) (k := 1) (d := inL many) (evS_ns ?_ rfl)
      generalize hρ : expose (fv (.bin .add (.lc [2] (.one 2) (.rng (.int 6)) .yes (.bin .mul (.int 7) (.var 2))) (.lst (.cons (.int 50) (.cons (.int 60) (.cons (.int 98) (.cons (.int 99) (.cons (.int 11) (.cons (.int 12) .nil))))))))) 0 (envX ns x2 none x4 x5 x6 x7 none none none) = ρ
      have hl : ρ.length = 11 := by rw [← hρ, exp_len]; rfl
      have e1 : ev (CC 3) G (.lc [2] (.one 2) (.rng (.int 6)) .yes (.bin .mul (.int 7) (.var 2))) ρ = some (1, .lst ((List.range 6).map fun i : Nat => D.int (7 * (i : Int)))) := by
        refine ev_lc (ds := (List.range 6).map fun i : Nat => D.int (i : Nat)) (by simp only [evI, ev]; rfl) (lc_all (tg := .one 2) (fun i : Nat => D.int (i : Nat)) (fun i : Nat => D.int (7 * (i : Int))) fun i hi => ⟨(wipeR ρ [2]).set 2 (some (.int (i : Nat))), rfl, 0, ?_⟩)
        have g2 : ((wipeR ρ [2]).set 2 (some (D.int (i : Nat))))[2]? = some (some (.int (i : Nat))) := by
          show ((ρ.set 2 none).set 2 _)[2]? = _
          rw [List.getElem?_set_self (by rw [List.length_set]; omega)]
        simp only [ev, g2]
        show (if (-(2 ^ 64) < (7 : Int) ∧ (7 : Int) < 2 ^ 64) ∨ (-(2 ^ 64) < (i : Int) ∧ (i : Int) < 2 ^ 64) then some (0, D.int (7 * (i : Int))) else none) = _
        rw [if_pos (.inl (by decide))]
      have e2 : ev (CC 3) G (.lst (.cons (.int 50) (.cons (.int 60) (.cons (.int 98) (.cons (.int 99) (.cons (.int 11) (.cons (.int 12) .nil))))))) ρ = some (1, inL [50, 60, 98, 99, 11, 12]) := by
        simp only [ev, evs]
        rfl
      rw [ev, e1, e2]
      rfl
    refine (ex_nx s3).trans ?_
    have f2 : ∃ y2 y4 y5 y6 y7 y8 y9 y10, PV.exec (CC 3) G W (.for_ (.one 2) (.rng (.int 6)) manyB) (envY ns x2 x4 x5 x6 x7 none none none) = some (.nx (envY ns y2 y4 y5 y6 y7 y8 y9 y10)) := by
      have hfz : freeze (fv (.rng (.int 6))) 0 (envY ns x2 x4 x5 x6 x7 none none none) = envY ns x2 x4 x5 x6 x7 none none none := by
        cases x2 <;> cases x4 <;> cases x5 <;> cases x6 <;> cases x7 <;> rfl
      rw [ex_for (ds := (List.range 6).map fun i : Nat => D.int (i : Nat)) rfl (by simp only [evI, ev]; rfl), hfz]
      refine for_rule (tg := .one 2) (f := fun e => PV.exec (CC 3) G W manyB e) (P := fun o => ∃ y2 y4 y5 y6 y7 y8 y9 y10, o = some (.nx (envY ns y2 y4 y5 y6 y7 y8 y9 y10))) (fun ds ρ => (∀ d ∈ ds, ∃ j : Nat, d = .int (j : Nat)) ∧ ∃ y2 y4 y5 y6 y7 y8 y9 y10, ρ = envY ns y2 y4 y5 y6 y7 y8 y9 y10) ?_ ?_ _ _ ⟨fun d hd => ?_, x2, x4, x5, x6, x7, none, none, none, rfl⟩
      · rintro ρ ⟨_, y2, y4, y5, y6, y7, y8, y9, y10, rfl⟩
        exact ⟨y2, y4, y5, y6, y7, y8, y9, y10, rfl⟩
      · rintro d ds ρ ⟨hj, y2, y4, y5, y6, y7, y8, y9, y10, rfl⟩
        obtain ⟨j, rfl⟩ := hj d (List.mem_cons_self ..)
        obtain ⟨z4, z7, z8, z9, z10, hx⟩ := manyB_ok (ns := ns) (j := j) (x4 := y4) (x5 := y5) (x6 := y6) (x7 := y7) (x8 := y8) (x9 := y9) (x10 := y10)
        exact ⟨_, rfl, .inl ⟨_, hx, fun d hd => hj d (List.mem_cons_of_mem _ hd), _, _, _, _, _, _, _, _, rfl⟩⟩
      · obtain ⟨j, _, e⟩ := List.mem_map.mp hd
        exact ⟨j, e.symm⟩
    obtain ⟨y2, y4, y5, y6, y7, y8, y9, y10, f2⟩ := f2
    refine (ex_nx f2).trans ?_
    obtain ⟨k1, l1, e1, n1⟩ := of_chk3 c1
    obtain ⟨k2, l2, e2, n2⟩ := of_chk3 c2
    obtain ⟨k3, e3⟩ := of_chk0 c3
    obtain ⟨k4, e4⟩ := of_chk0 c4
    have hlen : ∀ l : List D, l.length = 3 → bltD .len (.lst l) = some (0, .int 3) := fun l h => by
      show some (0, D.int ((l.length : Nat) : Int)) = _
      rw [h]; rfl
    have b : evB (CC 3) G (.or_ (.cmp .ne (.blt .len (.call "together" (.cons (.lst (.cons (.tup (.cons (.int 1) (.cons (.int 2) .nil))) (.cons (.tup (.cons (.int 2) (.cons (.int 1) .nil))) .nil))) .nil) ["spare"] (.cons (.int 0) .nil))) (.int 3)) (.cmp .ne (.blt .len (.call "together" (.cons (.lst (.cons (.tup (.cons (.int 98) (.cons (.int 0) .nil))) (.cons (.tup (.cons (.int 0) (.cons (.int 98) .nil))) .nil))) .nil) ["spare"] (.cons (.int 99) .nil))) (.int 3))) (envY ns y2 y4 y5 y6 y7 y8 y9 y10) = some false := by
      refine evB_of (k := 0) ?_
      have t1 : ∀ ρ, ev (CC 3) G (.call "together" (.cons (.lst (.cons (.tup (.cons (.int 1) (.cons (.int 2) .nil))) (.cons (.tup (.cons (.int 2) (.cons (.int 1) .nil))) .nil))) .nil) ["spare"] (.cons (.int 0) .nil)) ρ = some (k1, .lst l1) := fun ρ => by
        simp only [ev, evs]
        exact e1
      have v1 : ∀ ρ, ev (CC 3) G (.blt .len (.call "together" (.cons (.lst (.cons (.tup (.cons (.int 1) (.cons (.int 2) .nil))) (.cons (.tup (.cons (.int 2) (.cons (.int 1) .nil))) .nil))) .nil) ["spare"] (.cons (.int 0) .nil))) ρ = some (0, .int 3) := fun ρ => by
        rw [ev, t1]
        exact hlen l1 n1
      have t2 : ∀ ρ, ev (CC 3) G (.call "together" (.cons (.lst (.cons (.tup (.cons (.int 98) (.cons (.int 0) .nil))) (.cons (.tup (.cons (.int 0) (.cons (.int 98) .nil))) .nil))) .nil) ["spare"] (.cons (.int 99) .nil)) ρ = some (k2, .lst l2) := fun ρ => by
        simp only [ev, evs]
        exact e2
      have v2 : ∀ ρ, ev (CC 3) G (.blt .len (.call "together" (.cons (.lst (.cons (.tup (.cons (.int 98) (.cons (.int 0) .nil))) (.cons (.tup (.cons (.int 0) (.cons (.int 98) .nil))) .nil))) .nil) ["spare"] (.cons (.int 99) .nil))) ρ = some (0, .int 3) := fun ρ => by
        rw [ev, t2]
        exact hlen l2 n2
      have u1 : ∀ ρ, ev (CC 3) G (.cmp .ne (.blt .len (.call "together" (.cons (.lst (.cons (.tup (.cons (.int 1) (.cons (.int 2) .nil))) (.cons (.tup (.cons (.int 2) (.cons (.int 1) .nil))) .nil))) .nil) ["spare"] (.cons (.int 0) .nil))) (.int 3)) ρ = some (0, .bl false) := fun ρ => by
        rw [ev, v1]
        simp only [ev, cmpD, eqd_int]
        rfl
      have u2 : ∀ ρ, ev (CC 3) G (.cmp .ne (.blt .len (.call "together" (.cons (.lst (.cons (.tup (.cons (.int 98) (.cons (.int 0) .nil))) (.cons (.tup (.cons (.int 0) (.cons (.int 98) .nil))) .nil))) .nil) ["spare"] (.cons (.int 99) .nil))) (.int 3)) ρ = some (0, .bl false) := fun ρ => by
        rw [ev, v2]
        simp only [ev, cmpD, eqd_int]
        rfl
      rw [ev, u1]
      dsimp only
      rw [u2]
    refine (ex_nx ((ex_false b).trans rfl)).trans (ex_rt (ex_ret (ρ' := _) (evS_ns (k := 0) ?_ rfl)))
    have hee : eqD (.lst []) (.lst []) = some true := eqd_in_nil []
    have t3 : ∀ ρ, ev (CC 3) G (.call "together" (.cons (.lst .nil) .nil) [] .nil) ρ = some (k3, .lst []) := fun ρ => by
      simp only [ev, evs]
      exact e3
    have t4 : ∀ ρ, ev (CC 3) G (.call "together" (.cons (.lst (.cons (.tup (.cons (.int 3) (.cons (.int 3) .nil))) .nil)) .nil) ["spare"] (.cons (.int 4) .nil)) ρ = some (k4, .lst []) := fun ρ => by
      simp only [ev, evs]
      exact e4
    have t5 : ∀ ρ, ev (CC 3) G (.lst .nil) ρ = some (1, .lst []) := fun ρ => by simp only [ev, evs]; rfl
    have u3 : ∀ ρ, ev (CC 3) G (.cmp .eq (.call "together" (.cons (.lst .nil) .nil) [] .nil) (.lst .nil)) ρ = some (0, .bl true) := fun ρ => by
      rw [ev, t3, t5]
      show (eqD (.lst []) (.lst [])).map (fun c => (0, D.bl c)) = _
      rw [hee]; rfl
    have u4 : ∀ ρ, ev (CC 3) G (.cmp .eq (.call "together" (.cons (.lst (.cons (.tup (.cons (.int 3) (.cons (.int 3) .nil))) .nil)) .nil) ["spare"] (.cons (.int 4) .nil)) (.lst .nil)) ρ = some (0, .bl true) := fun ρ => by
      rw [ev, t4, t5]
      show (eqD (.lst []) (.lst [])).map (fun c => (0, D.bl c)) = _
      rw [hee]; rfl
    rw [ev, u3]
    dsimp only
    rw [u4]
  rw [this]
end K7

set_option Elab.async false
set_option linter.all false
set_option maxRecDepth 100000
set_option maxHeartbeats 4000000
/-! k07, the head. -/
namespace K7
open PySem PySem.Spec PyProof.Rows L2 PV
def spLaw (K : PySem.W.Frag) : Sp := fun vs H Q _ => ∃ (a : Addr) (ns : List Int), vs = [.ref a] ∧ SqL K H a (ns.map V.int) ∧ ns.length ≤ 63 ∧ ∀ H', Q (.bl true) H'
theorem df_mk {g : G5} {t : Dfn} {f : Addr} {fd : FuncData} {h : Heap} (X : g.K.In h) (H : h.Ns mainGlobals g.mg) (F : L2.Fun g.K t.nm t.nm t.st f fd) (a : PySem.W.nsIn g.K mainGlobals t.nm = some (some (.ref f))) (sc : FnScope t.N t.ps (defScope t.st)) (tr : trSs 60 ⟨t.N, defScope t.st, defScope t.st⟩ 60 (defBody t.st) = some t.body) (hd : t.dfl = []) (hk : t.kw = none) (hb : Binds g.K fd t.ps []) : DfOk g t f fd :=
  ⟨F, PySem.W.mg_of X H a, sc, ⟨60, 60, tr⟩, ⟨[], [], .nil, fun _ => by rw [hd]; exact .nil, hb⟩, fun n ks e => by rw [hk] at e; cases e⟩
theorem all_mk {l : PySem.W.OpenLaw} {w : World} {K : PySem.W.Frag} {h : Heap} {mg : Str → Option Value} {fa f0 f1 f2 f3 f4 f5 f6 f7 f8 f9 f10 f11 f12 f13 q4 : Addr} {tk0 tk1 : Tok} (X : K.In h) (H : h.Ns mainGlobals mg) (hfa : mg "law" = some (.ref fa))
    {od0 an0 od1 an1 od2 an2 od3 an3 od4 an4 od5 an5 od6 an6 od7 an7 od8 an8 od9 an9 od10 an10 od11 an11 od12 an12 od13 an13 : Option Addr} {sl0 sl1 sl2 sl3 sl4 sl5 sl6 sl7 sl8 sl9 sl10 sl11 sl12 sl13 : Array (Option Value)} {oc0 dc0 pm0 cd0 ct0 kV0 oc1 dc1 pm1 cd1 ct1 kV1 oc2 dc2 pm2 cd2 ct2 kV2 oc3 dc3 pm3 cd3 ct3 kV3 oc4 dc4 pm4 cd4 ct4 oc5 dc5 pm5 cd5 ct5 kV5 oc6 dc6 pm6 cd6 ct6 kV6 oc7 dc7 pm7 cd7 ct7 kV7 oc8 dc8 pm8 cd8 ct8 kV8 oc9 dc9 pm9 cd9 ct9 kV9 oc10 dc10 pm10 cd10 ct10 kV10 oc11 dc11 pm11 cd11 ct11 kV11 oc12 dc12 pm12 cd12 ct12 kV12 oc13 dc13 pm13 cd13 ct13 kV13 : Value}
    (a0 : PySem.W.nsIn K mainGlobals "is_number" = some (some (.ref f0))) (l0 : K.lookup f0 = some ⟨oc0, od0, .func (PySem.W.fnOf "is_number" "is_number" (defArgs (topS 4)) (defBody (topS 4)) (defScope (topS 4)) .none (kV0) dc0 pm0 an0 cd0 ct0), sl0⟩) (c0 : PySem.W.codeIn K cd0 "is_number" = true) (k0 : PySem.W.keepIn K (.ref f0) = true)
    (a1 : PySem.W.nsIn K mainGlobals "is_move" = some (some (.ref f1))) (l1 : K.lookup f1 = some ⟨oc1, od1, .func (PySem.W.fnOf "is_move" "is_move" (defArgs (topS 8)) (defBody (topS 8)) (defScope (topS 8)) .none (kV1) dc1 pm1 an1 cd1 ct1), sl1⟩) (c1 : PySem.W.codeIn K cd1 "is_move" = true) (k1 : PySem.W.keepIn K (.ref f1) = true)
    (a2 : PySem.W.nsIn K mainGlobals "ring_from" = some (some (.ref f2))) (l2 : K.lookup f2 = some ⟨oc2, od2, .func (PySem.W.fnOf "ring_from" "ring_from" (defArgs (topS 9)) (defBody (topS 9)) (defScope (topS 9)) .none (kV2) dc2 pm2 an2 cd2 ct2), sl2⟩) (c2 : PySem.W.codeIn K cd2 "ring_from" = true) (k2 : PySem.W.keepIn K (.ref f2) = true)
    (a3 : PySem.W.nsIn K mainGlobals "rows_for_ring" = some (some (.ref f3))) (l3 : K.lookup f3 = some ⟨oc3, od3, .func (PySem.W.fnOf "rows_for_ring" "rows_for_ring" (defArgs (topS 10)) (defBody (topS 10)) (defScope (topS 10)) .none (kV3) dc3 pm3 an3 cd3 ct3), sl3⟩) (c3 : PySem.W.codeIn K cd3 "rows_for_ring" = true) (k3 : PySem.W.keepIn K (.ref f3) = true)
    (a4 : PySem.W.nsIn K mainGlobals "together" = some (some (.ref f4))) (l4 : K.lookup f4 = some ⟨oc4, od4, .func (PySem.W.fnOf "together" "together" (defArgs (topS 11)) (defBody (topS 11)) (defScope (topS 11)) .none (.ref q4) dc4 pm4 an4 cd4 ct4), sl4⟩) (c4 : PySem.W.codeIn K cd4 "together" = true) (k4 : PySem.W.keepIn K (.ref f4) = true)
    (w4 : PySem.W.nsIn K q4 "spare" = some (some .none))
    (a5 : PySem.W.nsIn K mainGlobals "_law_cell_at" = some (some (.ref f5))) (l5 : K.lookup f5 = some ⟨oc5, od5, .func (PySem.W.fnOf "_law_cell_at" "_law_cell_at" (defArgs (topS 13)) (defBody (topS 13)) (defScope (topS 13)) .none (kV5) dc5 pm5 an5 cd5 ct5), sl5⟩) (c5 : PySem.W.codeIn K cd5 "_law_cell_at" = true) (k5 : PySem.W.keepIn K (.ref f5) = true)
    (a6 : PySem.W.nsIn K mainGlobals "_law_numbers" = some (some (.ref f6))) (l6 : K.lookup f6 = some ⟨oc6, od6, .func (PySem.W.fnOf "_law_numbers" "_law_numbers" (defArgs (topS 14)) (defBody (topS 14)) (defScope (topS 14)) .none (kV6) dc6 pm6 an6 cd6 ct6), sl6⟩) (c6 : PySem.W.codeIn K cd6 "_law_numbers" = true) (k6 : PySem.W.keepIn K (.ref f6) = true)
    (a7 : PySem.W.nsIn K mainGlobals "_law_moves" = some (some (.ref f7))) (l7 : K.lookup f7 = some ⟨oc7, od7, .func (PySem.W.fnOf "_law_moves" "_law_moves" (defArgs (topS 15)) (defBody (topS 15)) (defScope (topS 15)) .none (kV7) dc7 pm7 an7 cd7 ct7), sl7⟩) (c7 : PySem.W.codeIn K cd7 "_law_moves" = true) (k7 : PySem.W.keepIn K (.ref f7) = true)
    (a8 : PySem.W.nsIn K mainGlobals "_law_done" = some (some (.ref f8))) (l8 : K.lookup f8 = some ⟨oc8, od8, .func (PySem.W.fnOf "_law_done" "_law_done" (defArgs (topS 16)) (defBody (topS 16)) (defScope (topS 16)) .none (kV8) dc8 pm8 an8 cd8 ct8), sl8⟩) (c8 : PySem.W.codeIn K cd8 "_law_done" = true) (k8 : PySem.W.keepIn K (.ref f8) = true)
    (a9 : PySem.W.nsIn K mainGlobals "_law_right" = some (some (.ref f9))) (l9 : K.lookup f9 = some ⟨oc9, od9, .func (PySem.W.fnOf "_law_right" "_law_right" (defArgs (topS 17)) (defBody (topS 17)) (defScope (topS 17)) .none (kV9) dc9 pm9 an9 cd9 ct9), sl9⟩) (c9 : PySem.W.codeIn K cd9 "_law_right" = true) (k9 : PySem.W.keepIn K (.ref f9) = true)
    (a10 : PySem.W.nsIn K mainGlobals "_law_rings" = some (some (.ref f10))) (l10 : K.lookup f10 = some ⟨oc10, od10, .func (PySem.W.fnOf "_law_rings" "_law_rings" (defArgs (topS 18)) (defBody (topS 18)) (defScope (topS 18)) .none (kV10) dc10 pm10 an10 cd10 ct10), sl10⟩) (c10 : PySem.W.codeIn K cd10 "_law_rings" = true) (k10 : PySem.W.keepIn K (.ref f10) = true)
    (a11 : PySem.W.nsIn K mainGlobals "_law_fewest" = some (some (.ref f11))) (l11 : K.lookup f11 = some ⟨oc11, od11, .func (PySem.W.fnOf "_law_fewest" "_law_fewest" (defArgs (topS 19)) (defBody (topS 19)) (defScope (topS 19)) .none (kV11) dc11 pm11 an11 cd11 ct11), sl11⟩) (c11 : PySem.W.codeIn K cd11 "_law_fewest" = true) (k11 : PySem.W.keepIn K (.ref f11) = true)
    (a12 : PySem.W.nsIn K mainGlobals "_law_steps" = some (some (.ref f12))) (l12 : K.lookup f12 = some ⟨oc12, od12, .func (PySem.W.fnOf "_law_steps" "_law_steps" (defArgs (topS 20)) (defBody (topS 20)) (defScope (topS 20)) .none (kV12) dc12 pm12 an12 cd12 ct12), sl12⟩) (c12 : PySem.W.codeIn K cd12 "_law_steps" = true) (k12 : PySem.W.keepIn K (.ref f12) = true)
    (a13 : PySem.W.nsIn K mainGlobals "law" = some (some (.ref f13))) (l13 : K.lookup f13 = some ⟨oc13, od13, .func (PySem.W.fnOf "law" "law" (defArgs (topS 21)) (defBody (topS 21)) (defScope (topS 21)) .none (kV13) dc13 pm13 an13 cd13 ct13), sl13⟩) (c13 : PySem.W.codeIn K cd13 "law" = true) (k13 : PySem.W.keepIn K (.ref f13) = true)
    (z0 : PySem.W.nsIn K mainGlobals "len" = some none)
    (z1 : PySem.W.nsIn K mainGlobals "all" = some none)
    (z2 : PySem.W.nsIn K mainGlobals "any" = some none)
    (z3 : PySem.W.nsIn K mainGlobals "list" = some none)
    (z4 : PySem.W.nsIn K mainGlobals "tuple" = some none)
    (z5 : PySem.W.nsIn K mainGlobals "set" = some none)
    (z6 : PySem.W.nsIn K mainGlobals "isinstance" = some none)
    (z7 : PySem.W.nsIn K mainGlobals "range" = some none)
    (z8 : PySem.W.nsIn K mainGlobals "enumerate" = some none)
    (z9 : PySem.W.nsIn K mainGlobals "zip" = some none)
    (z10 : PySem.W.nsIn K mainGlobals "int" = some none)
    (z11 : PySem.W.nsIn K mainGlobals "bool" = some none)
    (z12 : PySem.W.nsIn K mainGlobals "str" = some none)
    (z13 : PySem.W.nsIn K mainGlobals "dict" = some none)
    (z14 : PySem.W.nsIn K mainGlobals "sorted" = some none)
    (z15 : PySem.W.nsIn K mainGlobals "min" = some none)
    (z16 : PySem.W.nsIn K mainGlobals "max" = some none)
    (z17 : PySem.W.nsIn K mainGlobals "sum" = some none)
    (yy0 : PySem.W.nsIn K mainGlobals "PLACES" = some (some (.int 99 tk0)))
    (yy1 : PySem.W.nsIn K mainGlobals "MOST" = some (some (.int 10 tk1))) :
    ∃ fd : FuncData, (∀ (s : Shared) (v : Value), BindsTo s fd ⟨[v], []⟩ [("_law_script", v)]) ∧ ∀ base : Heap, K.In base → base.Ns mainGlobals mg → FnOk l.prog w K mg base L2.CX0 4 fa fd ["_law_script"] (spLaw K) := by
  have e := hfa.symm.trans (PySem.W.mg_of X H a13)
  cases e
  have F0 := fun_mk (st := topS 4) l0 c0 k0
  have b0 := F0.binds (ps := d_is_number.ps) fun _ _ _ _ _ _ us hl => match us, hl with | [_, _, _], _ => rfl
  have F1 := fun_mk (st := topS 8) l1 c1 k1
  have b1 := F1.binds (ps := d_is_move.ps) fun _ _ _ _ _ _ us hl => match us, hl with | [_], _ => rfl
  have F2 := fun_mk (st := topS 9) l2 c2 k2
  have b2 := F2.binds (ps := d_ring_from.ps) fun _ _ _ _ _ _ us hl => match us, hl with | [_, _], _ => rfl
  have F3 := fun_mk (st := topS 10) l3 c3 k3
  have b3 := F3.binds (ps := d_rows_for_ring.ps) fun _ _ _ _ _ _ us hl => match us, hl with | [_, _, _], _ => rfl
  have F4 := fun_mk (st := topS 11) l4 c4 k4
  have D4 : FunD K "together" "together" (defArgs (topS 11)) (defBody (topS 11)) (defScope (topS 11)) [] [("spare", .non)] f4 (PySem.W.fnOf "together" "together" (defArgs (topS 11)) (defBody (topS 11)) (defScope (topS 11)) .none (.ref q4) dc4 pm4 an4 cd4 ct4) := ⟨⟨oc4, od4, .none, .ref q4, dc4, pm4, an4, cd4, ct4, sl4, rfl, l4, c4, .inl ⟨rfl, rfl⟩, .inr ⟨q4, rfl, fun p hp => by
    have : p = (("spare" : Str), V.non) := by simpa using hp
    subst this
    exact ⟨.none, w4, by constructor⟩⟩⟩, k4⟩
  obtain ⟨us4, v4, b4⟩ := D4.binds0 (ps := d_together.ps) 1 (by simp) rfl (fun _ _ _ _ _ _ us ks hu hk => match us, ks, hu, hk with | [_], [_], _, _ => ⟨_, _, _, _, _, _, rfl, rfl, rfl⟩)
  have B4 : KBn K (PySem.W.fnOf "together" "together" (defArgs (topS 11)) (defBody (topS 11)) (defScope (topS 11)) .none (.ref q4) dc4 pm4 an4 cd4 ct4) d_together.ps 1 ["spare"] (fun us ws => us ++ ws) (fun vs zs => vs ++ zs) := ⟨fun s us ws _ hu hw => match us, ws, hu, hw with | [_], [_], _, _ => .of_eq rfl, fun r1 r2 => r1.append r2⟩
  have F5 := fun_mk (st := topS 13) l5 c5 k5
  have b5 := F5.binds (ps := d_law_cell_at.ps) fun _ _ _ _ _ _ us hl => match us, hl with | [_, _], _ => rfl
  have F6 := fun_mk (st := topS 14) l6 c6 k6
  have b6 := F6.binds (ps := d_law_numbers.ps) fun _ _ _ _ _ _ us hl => match us, hl with | [_, _], _ => rfl
  have F7 := fun_mk (st := topS 15) l7 c7 k7
  have b7 := F7.binds (ps := d_law_moves.ps) fun _ _ _ _ _ _ us hl => match us, hl with | [_, _, _], _ => rfl
  have F8 := fun_mk (st := topS 16) l8 c8 k8
  have b8 := F8.binds (ps := d_law_done.ps) fun _ _ _ _ _ _ us hl => match us, hl with | [_, _], _ => rfl
  have F9 := fun_mk (st := topS 17) l9 c9 k9
  have b9 := F9.binds (ps := d_law_right.ps) fun _ _ _ _ _ _ us hl => match us, hl with | [_, _, _, _], _ => rfl
  have F10 := fun_mk (st := topS 18) l10 c10 k10
  have b10 := F10.binds (ps := d_law_rings.ps) fun _ _ _ _ _ _ us hl => match us, hl with | [_], _ => rfl
  have F11 := fun_mk (st := topS 19) l11 c11 k11
  have b11 := F11.binds (ps := d_law_fewest.ps) fun _ _ _ _ _ _ us hl => match us, hl with | [_, _, _], _ => rfl
  have F12 := fun_mk (st := topS 20) l12 c12 k12
  have b12 := F12.binds (ps := d_law_steps.ps) fun _ _ _ _ _ _ us hl => match us, hl with | [_, _], _ => rfl
  have F13 := fun_mk (st := topS 21) l13 c13 k13
  have b13 := F13.binds (ps := d_law.ps) fun _ _ _ _ _ _ us hl => match us, hl with | [_], _ => rfl
  refine ⟨PySem.W.fnOf "law" "law" (defArgs (topS 21)) (defBody (topS 21)) (defScope (topS 21)) .none kV13 dc13 pm13 an13 cd13 ct13, fun s v => .of_eq rfl, fun base _ _ => ?_⟩
  have M : ModOk ⟨l.prog, w, K, mg, base⟩ T G := by
    refine ⟨fun x t ht => ?_, fun x d hx => ?_, fun x hx => ?_⟩
    · have hm : t ∈ defsL := List.mem_of_find?_eq_some ht
      have hn : t.nm = x := by
        have ht' : defsL.find? (fun z : Dfn => decide (z.nm = x)) = some t := ht
        have := List.find?_some ht'
        exact of_decide_eq_true this
      refine ⟨hn, ?_⟩
      simp only [defsL, List.mem_cons, List.not_mem_nil, or_false] at hm
      rcases hm with rfl | rfl | rfl | rfl | rfl | rfl | rfl | rfl | rfl | rfl | rfl | rfl | rfl | rfl
      · exact ⟨_, _, df_mk (t := d_is_number) X H F0 a0 s_is_number t_is_number rfl rfl b0⟩
      · exact ⟨_, _, df_mk (t := d_is_move) X H F1 a1 s_is_move t_is_move rfl rfl b1⟩
      · exact ⟨_, _, df_mk (t := d_ring_from) X H F2 a2 s_ring_from t_ring_from rfl rfl b2⟩
      · exact ⟨_, _, df_mk (t := d_rows_for_ring) X H F3 a3 s_rows_for_ring t_rows_for_ring rfl rfl b3⟩
      · exact ⟨_, _, F4, PySem.W.mg_of X H a4, s_together, ⟨60, 60, t_together⟩, ⟨[.non], us4, v4, fun _ => .cons .non .nil, b4⟩, fun n ks e => by cases e; exact B4⟩
      · exact ⟨_, _, df_mk (t := d_law_cell_at) X H F5 a5 s_law_cell_at t_law_cell_at rfl rfl b5⟩
      · exact ⟨_, _, df_mk (t := d_law_numbers) X H F6 a6 s_law_numbers t_law_numbers rfl rfl b6⟩
      · exact ⟨_, _, df_mk (t := d_law_moves) X H F7 a7 s_law_moves t_law_moves rfl rfl b7⟩
      · exact ⟨_, _, df_mk (t := d_law_done) X H F8 a8 s_law_done t_law_done rfl rfl b8⟩
      · exact ⟨_, _, df_mk (t := d_law_right) X H F9 a9 s_law_right t_law_right rfl rfl b9⟩
      · exact ⟨_, _, df_mk (t := d_law_rings) X H F10 a10 s_law_rings t_law_rings rfl rfl b10⟩
      · exact ⟨_, _, df_mk (t := d_law_fewest) X H F11 a11 s_law_fewest t_law_fewest rfl rfl b11⟩
      · exact ⟨_, _, df_mk (t := d_law_steps) X H F12 a12 s_law_steps t_law_steps rfl rfl b12⟩
      · exact ⟨_, _, df_mk (t := d_law) X H F13 a13 s_law t_law rfl rfl b13⟩
    · unfold G at hx
      split at hx
      · rename_i e
        cases hx
        subst e
        exact ⟨.int 99, _, PySem.W.mg_of X H yy0, ⟨_, rfl⟩, fun _ => .int 99⟩
      · split at hx
        · rename_i e
          cases hx
          subst e
          exact ⟨.int 10, _, PySem.W.mg_of X H yy1, ⟨_, rfl⟩, fun _ => .int 10⟩
        · cases hx
    · simp only [bltNames, List.mem_cons, List.not_mem_nil, or_false] at hx
      rcases hx with rfl | rfl | rfl | rfl | rfl | rfl | rfl | rfl | rfl | rfl | rfl | rfl | rfl | rfl | rfl | rfl | rfl | rfl
      · exact PySem.W.mg_none_of X H z0
      · exact PySem.W.mg_none_of X H z1
      · exact PySem.W.mg_none_of X H z2
      · exact PySem.W.mg_none_of X H z3
      · exact PySem.W.mg_none_of X H z4
      · exact PySem.W.mg_none_of X H z5
      · exact PySem.W.mg_none_of X H z6
      · exact PySem.W.mg_none_of X H z7
      · exact PySem.W.mg_none_of X H z8
      · exact PySem.W.mg_none_of X H z9
      · exact PySem.W.mg_none_of X H z10
      · exact PySem.W.mg_none_of X H z11
      · exact PySem.W.mg_none_of X H z12
      · exact PySem.W.mg_none_of X H z13
      · exact PySem.W.mg_none_of X H z14
      · exact PySem.W.mg_none_of X H z15
      · exact PySem.W.mg_none_of X H z16
      · exact PySem.W.mg_none_of X H z17
  have FN := fn_ok (w := W) (df_mk (g := ⟨l.prog, w, K, mg, base⟩) (t := d_law) X H F13 a13 s_law t_law rfl rfl b13) (calls_ok M W 3) M.glo M.blt
  refine FN.imp fun vs H Q E ⟨a, ns, e1, e2, e3, e4⟩ => ?_
  subst e1
  refine ⟨H, [.rol ns], 0, .bl true, .refl _, .cons (.rol e2 (Nat.le_trans e3 (by decide))) .nil, rfl, law_ok ns, fun v F' H' fq _ ow _ => ?_⟩
  obtain ⟨dv, _⟩ := own_zero ow
  cases dv
  exact e4 H'
end K7
open PySem PySem.W PyProof.Rows
set_option maxHeartbeats 0 in
theorem PySem.Challenge.cw_handsdealt_k07_whole_moves_holds : PySem.Challenge.rw_handsdealt_k07_whole_moves.Holds := by
  w_on; o_law; k_head; (case hw => w_witness2)
  k_fill
  refine L2.walk_of (l := PySem.Challenge.rw_handsdealt_k07_whole_moves) (n := 63) (k := 4) (x := "_law_script") (CX := fun _ => L2.CX0) (sp := fun w => K7.spLaw _) rfl (by decide) rfl ⟨rfl, by decide, by decide⟩ (fun w h Y => PySem.W.kIn_of Y) ?F (fun _ _ a ns hl _ hS => ⟨a, ns, rfl, hS, hl, fun _ => rfl⟩) (fun _ _ _ _ _ h => h)
  case F =>
    intro w mg fa h KX G hmg
    refine' K7.all_mk KX G hmg ?a0 ?l0 ?c0 ?k0 ?a1 ?l1 ?c1 ?k1 ?a2 ?l2 ?c2 ?k2 ?a3 ?l3 ?c3 ?k3 ?a4 ?l4 ?c4 ?k4 ?w4 ?a5 ?l5 ?c5 ?k5 ?a6 ?l6 ?c6 ?k6 ?a7 ?l7 ?c7 ?k7 ?a8 ?l8 ?c8 ?k8 ?a9 ?l9 ?c9 ?k9 ?a10 ?l10 ?c10 ?k10 ?a11 ?l11 ?c11 ?k11 ?a12 ?l12 ?c12 ?k12 ?a13 ?l13 ?c13 ?k13 ?z0 ?z1 ?z2 ?z3 ?z4 ?z5 ?z6 ?z7 ?z8 ?z9 ?z10 ?z11 ?z12 ?z13 ?z14 ?z15 ?z16 ?z17 ?yy0 ?yy1
    (case a0 => k_is)
    (case l0 => k_is)
    (case c0 => k_is)
    (case k0 => k_is)
    (case a1 => k_is)
    (case l1 => k_is)
    (case c1 => k_is)
    (case k1 => k_is)
    (case a2 => k_is)
    (case l2 => k_is)
    (case c2 => k_is)
    (case k2 => k_is)
    (case a3 => k_is)
    (case l3 => k_is)
    (case c3 => k_is)
    (case k3 => k_is)
    (case a4 => k_is)
    (case l4 => k_is)
    (case c4 => k_is)
    (case k4 => k_is)
    (case w4 => k_is)
    (case a5 => k_is)
    (case l5 => k_is)
    (case c5 => k_is)
    (case k5 => k_is)
    (case a6 => k_is)
    (case l6 => k_is)
    (case c6 => k_is)
    (case k6 => k_is)
    (case a7 => k_is)
    (case l7 => k_is)
    (case c7 => k_is)
    (case k7 => k_is)
    (case a8 => k_is)
    (case l8 => k_is)
    (case c8 => k_is)
    (case k8 => k_is)
    (case a9 => k_is)
    (case l9 => k_is)
    (case c9 => k_is)
    (case k9 => k_is)
    (case a10 => k_is)
    (case l10 => k_is)
    (case c10 => k_is)
    (case k10 => k_is)
    (case a11 => k_is)
    (case l11 => k_is)
    (case c11 => k_is)
    (case k11 => k_is)
    (case a12 => k_is)
    (case l12 => k_is)
    (case c12 => k_is)
    (case k12 => k_is)
    (case a13 => k_is)
    (case l13 => k_is)
    (case c13 => k_is)
    (case k13 => k_is)
    (case z0 => k_is)
    (case z1 => k_is)
    (case z2 => k_is)
    (case z3 => k_is)
    (case z4 => k_is)
    (case z5 => k_is)
    (case z6 => k_is)
    (case z7 => k_is)
    (case z8 => k_is)
    (case z9 => k_is)
    (case z10 => k_is)
    (case z11 => k_is)
    (case z12 => k_is)
    (case z13 => k_is)
    (case z14 => k_is)
    (case z15 => k_is)
    (case z16 => k_is)
    (case z17 => k_is)
    (case yy0 => k_is)
    (case yy1 => k_is)
