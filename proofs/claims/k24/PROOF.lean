import PyProof.Rows.All
import Wide.All
import OpenK.AllK
import Wide.FinOn
import HandS.ForMost
import HandS.Walk
import HandS.Exc
import HandS.WordsExc
import HandS.TupAny
import HandS.ExcCtx
import HandS.HotCalls
import KE.KxText
import KE.KSortTupG
import HandS.Ends
import KE.GoesZip
import KE.GoesEnum
import KE.GoesMore
import KE.KDictZip
import PyProof.CollectWalk
import KE.KDictList
import HandS.AnyAll
import HandS.IsInst
import HandS.Star
import HandS.Conv
import HandS.Style
import HandS.Text
import HandS.StrMore
import HandS.Wide
import HandS.ListEq
import HandS.Flow
import HandS.RevTup
import KE.KRevSl
import HandS.ExcField
import HandS.ExcIs
import KE.KExcIs
import KE.KExcInit
import KE.KTryMore
import HandS.Small
import HandS.SetFor
import PyProof.NeKinds
import KE.DataMinMax
import PyProof.ListStr
import HandS.TupMul
import HandS.More
import HandS.Set
import PyProof.SetKind
import PyProof.SetRoads
import PyProof.Rows.SortShellAny
import HandS.SortInts
import HandS.Replace
import PyProof.StrLaws
import HandS.Codes
import PyProof.CollectStr
import PyProof.SliceStr2
import PyProof.Rows.StrStep
import PyProof.StrLawsIn
import PyProof.StrLawsRepr
import PyProof.FitsInt
import PySem.Challenge.RW_tailranks_k24_orders_counted
set_option Elab.async false
set_option linter.all false
set_option maxRecDepth 100000
set_option maxHeartbeats 1000000
namespace DL
open PySem L2

/-- data: texts are lists of code points; ob: the k-th anchored object of the ghost region -/
inductive D where
  | non | bl (b : Bool) | int (i : Int) | str (x : List Nat) | lst (xs : List D) | tup (xs : List D) | dic (kvs : List (Key × D)) | ob (k : Nat) | exn (cls : Str) (ns : List Str) (ds : List D) | tx (xs : List D) | cl (c : Str)
/-- the table of modules stands in the base -/
def SmB (base : Heap) : Prop := ∃ o, base.get? sysModules = some o
/-- a caught exception's own object is known to the object -/
def exU : HO := .ext fun _ => True

mutual
inductive Rp (K : PySem.W.Frag) (F : Hp) (R : List Addr) : V → D → Prop
  | non : Rp K F R .non .non
  | bl (b : Bool) : Rp K F R (.bl b) (.bl b)
  | int (i : Int) : Rp K F R (.int i) (.int i)
  | str (z : Str) (x : List Nat) : z.cps.toList = x → Rp K F R (.str z) (.str x)
  | lst {a : Addr} {vs : List V} {ds : List D} : F a = some (.lst vs) → RpA K F R vs ds → Rp K F R (.ref a) (.lst ds)
  | tup {a : Addr} {vs : List V} {ds : List D} : SqT K F a vs → RpA K F R vs ds → Rp K F R (.ref a) (.tup ds)
  | dic {a : Addr} {kvs : List (Key × V)} {kds : List (Key × D)} : F a = some (.dK kvs) → RpK K F R kvs kds → Rp K F R (.ref a) (.dic kds)
  | ob {a : Addr} {k : Nat} : R[k]? = some a → Rp K F R (.ref a) (.ob k)
  | exn0 {a C : Addr} {cls : Str} {oe : Obj} : PySem.W.nsIn K mainGlobals cls = some (some (.ref C)) → F a = some (.frz oe exU) → Zc (.ref C) none oe → (∃ fv, oe.data = .fields fv) → Rp K F R (.ref a) (.exn cls [] [])
  | exn {a C dd : Addr} {cls : Str} {oe : Obj} {ns : List Str} {vs : List V} {ds : List D} : PySem.W.nsIn K mainGlobals cls = some (some (.ref C)) → F a = some (.frz oe exU) → Zc (.ref C) (some dd) oe → (∃ fv, oe.data = .fields fv) →
      F dd = some (.xd (ns.zip vs)) → ns.length = vs.length → RpA K F R vs ds → Rp K F R (.ref a) (.exn cls ns ds)
  | tx {a : Addr} {vs : List V} {ds : List D} {o : Obj} : F a = some (.frz o (.tup vs)) → o.dict = none → o.cls = .type "tuple" → RpA K F R vs ds → Rp K F R (.ref a) (.tx ds)
  | cl {C : Addr} {c : Str} : PySem.W.nsIn K mainGlobals c = some (some (.ref C)) → Rp K F R (.ref C) (.cl c)
inductive RpA (K : PySem.W.Frag) (F : Hp) (R : List Addr) : List V → List D → Prop
  | nil : RpA K F R [] []
  | cons {v : V} {vs : List V} {d : D} {ds : List D} : Rp K F R v d → RpA K F R vs ds → RpA K F R (v :: vs) (d :: ds)
inductive RpK (K : PySem.W.Frag) (F : Hp) (R : List Addr) : List (Key × V) → List (Key × D) → Prop
  | nil : RpK K F R [] []
  | cons {k : Key} {v : V} {kvs : List (Key × V)} {d : D} {kds : List (Key × D)} : Rp K F R v d → RpK K F R kvs kds → RpK K F R ((k, v) :: kvs) ((k, d) :: kds)
end

theorem same_tup {K : PySem.W.Frag} {H H' : Hp} {a : Addr} {xs : List V} (e : Same H H') (h : SqT K H a xs) : SqT K H' a xs := by
  rcases h with (h | ⟨o, h⟩) | h
  · exact .inl (.inl (e _ _ h))
  · exact .inl (.inr ⟨o, e _ _ h⟩)
  · exact .inr h
section
variable {K : PySem.W.Frag} {F F' : Hp} {R R' : List Addr}
mutual
theorem Rp.mono (e : Same F F') (r : ∀ (k : Nat) a, R[k]? = some a → R'[k]? = some a) : ∀ {v : V} {d : D}, Rp K F R v d → Rp K F' R' v d
  | _, _, .non => .non
  | _, _, .bl b => .bl b
  | _, _, .int i => .int i
  | _, _, .str z x h => .str z x h
  | _, _, .lst h q => .lst (e _ _ h) (RpA.mono e r q)
  | _, _, .tup h q => .tup (same_tup e h) (RpA.mono e r q)
  | _, _, .dic h q => .dic (e _ _ h) (RpK.mono e r q)
  | _, _, .ob h => .ob (r _ _ h)
  | _, _, .exn0 h1 h2 h3 h4 => .exn0 h1 (e _ _ h2) h3 h4
  | _, _, .exn h1 h2 h3 h4 h5 h6 q => .exn h1 (e _ _ h2) h3 h4 (e _ _ h5) h6 (RpA.mono e r q)
  | _, _, .tx h1 h2 h3 q => .tx (e _ _ h1) h2 h3 (RpA.mono e r q)
  | _, _, .cl h => .cl h
theorem RpA.mono (e : Same F F') (r : ∀ (k : Nat) a, R[k]? = some a → R'[k]? = some a) : ∀ {v : List V} {d : List D}, RpA K F R v d → RpA K F' R' v d
  | _, _, .nil => .nil
  | _, _, .cons h q => .cons (Rp.mono e r h) (RpA.mono e r q)
theorem RpK.mono (e : Same F F') (r : ∀ (k : Nat) a, R[k]? = some a → R'[k]? = some a) : ∀ {v : List (Key × V)} {d : List (Key × D)}, RpK K F R v d → RpK K F' R' v d
  | _, _, .nil => .nil
  | _, _, .cons h q => .cons (Rp.mono e r h) (RpK.mono e r q)
end
theorem RpA.length : ∀ {vs : List V} {ds : List D}, RpA K F R vs ds → vs.length = ds.length
  | _, _, .nil => rfl
  | _, _, .cons _ t => by rw [List.length_cons, List.length_cons, t.length]
theorem RpA.get' : ∀ {vs : List V} {ds : List D} {i : Nat} {d : D}, RpA K F R vs ds → ds[i]? = some d → ∃ v, vs[i]? = some v ∧ Rp K F R v d
  | _, _, _, _, .nil, e => by simp at e
  | _, _, 0, _, .cons r _, e => by simp at e; subst e; exact ⟨_, rfl, r⟩
  | _, _, i + 1, d, .cons _ t, e => by
    obtain ⟨u, h1, h2⟩ := RpA.get' (i := i) (d := d) t (by simpa using e)
    exact ⟨u, by simpa using h1, h2⟩
theorem RpA.append : ∀ {vs ws : List V} {ds es : List D}, RpA K F R vs ds → RpA K F R ws es → RpA K F R (vs ++ ws) (ds ++ es)
  | _, _, _, _, .nil, s => s
  | _, _, _, _, .cons r t, s => .cons r (RpA.append t s)
theorem RpA.take : ∀ {vs : List V} {ds : List D} (n : Nat), RpA K F R vs ds → RpA K F R (vs.take n) (ds.take n)
  | _, _, 0, _ => .nil
  | _, _, _ + 1, .nil => .nil
  | _, _, n + 1, .cons r t => .cons r (RpA.take n t)
theorem RpA.drop : ∀ {vs : List V} {ds : List D} (n : Nat), RpA K F R vs ds → RpA K F R (vs.drop n) (ds.drop n)
  | _, _, 0, r => r
  | _, _, _ + 1, .nil => .nil
  | _, _, n + 1, .cons _ t => RpA.drop n t
theorem RpA.set {v : V} {d : D} (r : Rp K F R v d) : ∀ {vs : List V} {ds : List D} (i : Nat), RpA K F R vs ds → RpA K F R (vs.set i v) (ds.set i d)
  | _, _, _, .nil => .nil
  | _, _, 0, .cons _ t => .cons r t
  | _, _, i + 1, .cons q t => .cons q (RpA.set r i t)
theorem RpA.flat {vs : List V} {ds : List D} (r : RpA K F R vs ds) : ∀ n : Nat, RpA K F R (List.replicate n vs).flatten (List.replicate n ds).flatten
  | 0 => .nil
  | n + 1 => by
    rw [List.replicate_succ, List.replicate_succ, List.flatten_cons, List.flatten_cons]
    exact r.append (RpA.flat r n)
end

structure Ghost where
  G : Type
  ok : PySem.W.Frag → G → List Addr → Hp → Hp → Prop
  keep : ∀ {K : PySem.W.Frag} {g : G} {R : List Addr} {F H F' H' : Hp}, ok K g R F H → Same F F' → (∀ a ∈ R, H' a = H a) → ok K g R F' H'
structure Wd (M : Ghost) where
  F : Hp
  H : Hp
  R : List Addr
  g : M.G
structure Wok {M : Ghost} (K : PySem.W.Frag) (W : Wd M) : Prop where
  sub : Same W.F W.H
  gh : M.ok K W.g W.R W.F W.H
  rf : ∀ a ∈ W.R, W.F a = none
  rh : ∀ a ∈ W.R, W.H a ≠ none
structure Go {M : Ghost} (W W' : Wd M) : Prop where
  sub : Same W.F W'.F
  keep : ∀ a o, W.H a = some o → a ∉ W.R → W'.H a = some o
  live : ∀ a, W.H a ≠ none → W'.H a ≠ none
  young : ∀ a, W'.F a ≠ none → W.F a ≠ none ∨ W.H a = none
  reg : ∃ new, W'.R = W.R ++ new ∧ ∀ a ∈ new, W.H a = none
section
variable {M : Ghost} {K : PySem.W.Frag} {W W1 W2 W' : Wd M}
theorem Go.refl (W : Wd M) : Go W W := ⟨Same.refl _, fun _ _ h _ => h, fun _ h => h, fun _ h => .inl h, [], by simp, by simp⟩
theorem Go.notR (g : Go W W1) {a : Addr} (h : W.H a ≠ none) (n : a ∉ W.R) : a ∉ W1.R := by
  obtain ⟨new, e, q⟩ := g.reg
  rw [e]
  intro z
  rcases List.mem_append.mp z with z | z
  · exact n z
  · exact h (q a z)
theorem Go.trans (a : Go W W1) (b : Go W1 W2) : Go W W2 := by
  refine ⟨a.sub.trans b.sub, fun c o h n => ?_, fun c h => b.live c (a.live c h), fun c h => ?_, ?_⟩
  · exact b.keep c o (a.keep c o h n) (a.notR (by rw [h]; simp) n)
  · rcases b.young c h with z | z
    · exact a.young c z
    · right
      cases q : W.H c with
      | none => rfl
      | some o => exact absurd z (a.live c (by rw [q]; simp))
  · obtain ⟨n1, e1, q1⟩ := a.reg
    obtain ⟨n2, e2, q2⟩ := b.reg
    refine ⟨n1 ++ n2, by rw [e2, e1, List.append_assoc], fun c hc => ?_⟩
    rcases List.mem_append.mp hc with z | z
    · exact q1 c z
    · cases q : W.H c with
      | none => rfl
      | some o => exact absurd (q2 c z) (a.live c (by rw [q]; simp))
theorem Go.ix (g : Go W W1) : ∀ (k : Nat) a, W.R[k]? = some a → W1.R[k]? = some a := by
  obtain ⟨new, e, _⟩ := g.reg
  intro k a h
  rw [e, List.getElem?_append_left (List.getElem?_eq_some_iff.mp h).1]
  exact h
theorem Rp.step {v : V} {d : D} (h : Rp K W.F W.R v d) (g : Go W W1) : Rp K W1.F W1.R v d := h.mono g.sub g.ix
theorem RpA.step {v : List V} {d : List D} (h : RpA K W.F W.R v d) (g : Go W W1) : RpA K W1.F W1.R v d := h.mono g.sub g.ix
theorem RpK.step {v : List (Key × V)} {d : List (Key × D)} (h : RpK K W.F W.R v d) (g : Go W W1) : RpK K W1.F W1.R v d := h.mono g.sub g.ix

/-- a new object that stands still -/
abbrev Wd.lay (W : Wd M) (p : Addr) (o : HO) : Wd M := { W with F := upd W.F p o, H := upd W.H p o }
/-- a new object that is not (yet) frozen -/
abbrev Wd.new (W : Wd M) (p : Addr) (o : HO) : Wd M := { W with H := upd W.H p o }
abbrev Wd.freeze (W : Wd M) (p : Addr) (o : HO) : Wd M := { W with F := upd W.F p o }
theorem same_new {H : Hp} {p : Addr} {o : HO} (h : H p = none) : Same H (upd H p o) := fun b x e => by
  rw [upd_ne (ne_of_none e h)]
  exact e
theorem Wok.noR (k : Wok K W) {p : Addr} (h : W.H p = none) : p ∉ W.R := fun z => k.rh p z h
theorem Wok.noF (k : Wok K W) {p : Addr} (h : W.H p = none) : W.F p = none := k.sub.free h
theorem Go.new (k : Wok K W) {p : Addr} {o : HO} (h : W.H p = none) : Go W (W.new p o) := by
  refine ⟨Same.refl _, fun a x e _ => same_new h a x e, fun a e => ?_, fun _ z => .inl z, [], by simp, by simp⟩
  show upd W.H p o a ≠ none
  cases q : W.H a with
  | none => exact absurd q e
  | some x => rw [same_new h a x q]; simp
theorem Wok.new (k : Wok K W) {p : Addr} {o : HO} (h : W.H p = none) : Wok K (W.new p o) := by
  have nr := k.noR h
  refine ⟨k.sub.trans (same_new h), M.keep k.gh (Same.refl _) fun a ha => upd_ne (fun z => nr (z ▸ ha)), k.rf, fun a ha => ?_⟩
  show upd W.H p o a ≠ none
  rw [upd_ne (show a ≠ p from fun z => nr (z ▸ ha))]
  exact k.rh a ha
theorem Go.lay (k : Wok K W) {p : Addr} {o : HO} (h : W.H p = none) : Go W (W.lay p o) := by
  have g := Go.new (o := o) k h
  refine ⟨same_new (k.noF h), g.keep, g.live, fun a z => ?_, [], by simp, by simp⟩
  by_cases e : a = p
  · subst e; exact .inr h
  · rw [show (W.lay p o).F a = W.F a from upd_ne e] at z
    exact .inl z
theorem Wok.lay (k : Wok K W) {p : Addr} {o : HO} (h : W.H p = none) : Wok K (W.lay p o) := by
  have nr := k.noR h
  have q := Wok.new (o := o) k h
  refine ⟨fun a x e => ?_, M.keep q.gh (same_new (k.noF h)) fun a ha => rfl, fun a ha => ?_, q.rh⟩
  · by_cases z : a = p
    · subst z
      rw [show (W.lay a o).F a = some o from upd_same] at e
      rw [show (W.lay a o).H a = some o from upd_same]
      exact e
    · rw [show (W.lay p o).F a = W.F a from upd_ne z] at e
      rw [show (W.lay p o).H a = W.H a from upd_ne z]
      exact k.sub _ _ e
  · show upd W.F p o a = none
    rw [upd_ne (show a ≠ p from fun z => nr (z ▸ ha))]
    exact k.rf a ha
/-- freezing a thing of one's own -/
theorem Wok.freeze (k : Wok K W) {p : Addr} {o : HO} (h : W.H p = some o) (hf : W.F p = none) (nr : p ∉ W.R) : Wok K (W.freeze p o) := by
  refine ⟨fun a x e => ?_, M.keep k.gh (same_new hf) fun a ha => rfl, fun a ha => ?_, k.rh⟩
  · by_cases z : a = p
    · subst z
      rw [show (W.freeze a o).F a = some o from upd_same] at e
      cases e
      exact h
    · rw [show (W.freeze p o).F a = W.F a from upd_ne z] at e
      exact k.sub _ _ e
  · show upd W.F p o a = none
    rw [upd_ne (show a ≠ p from fun z => nr (z ▸ ha))]
    exact k.rf a ha
theorem Go.freeze {W0 : Wd M} (g : Go W0 W) {p : Addr} {o : HO} (hf : W.F p = none) (h0 : W0.H p = none) : Go W0 (W.freeze p o) := by
  refine ⟨g.sub.trans (same_new hf), g.keep, g.live, fun a z => ?_, g.reg⟩
  by_cases e : a = p
  · subst e; exact .inr h0
  · rw [show (W.freeze p o).F a = W.F a from upd_ne e] at z
    exact g.young a z
/-- writing a thing of one's own -/
abbrev Wd.put (W : Wd M) (p : Addr) (o : HO) : Wd M := { W with H := upd W.H p o }
theorem Wok.put (k : Wok K W) {p : Addr} {o : HO} (hf : W.F p = none) (nr : p ∉ W.R) : Wok K (W.put p o) := by
  refine ⟨fun a x e => ?_, M.keep k.gh (Same.refl _) fun a ha => upd_ne (fun z => nr (z ▸ ha)), k.rf, fun a ha => ?_⟩
  · show upd W.H p o a = some x
    rw [upd_ne (show a ≠ p from fun z => by rw [z, hf] at e; cases e)]
    exact k.sub _ _ e
  · show upd W.H p o a ≠ none
    rw [upd_ne (show a ≠ p from fun z => nr (z ▸ ha))]
    exact k.rh a ha
theorem Go.put {W0 : Wd M} (g : Go W0 W) {p : Addr} {o : HO} (h0 : W0.H p = none) : Go W0 (W.put p o) := by
  refine ⟨g.sub, fun a x e n => ?_, fun a e => ?_, g.young, g.reg⟩
  · show upd W.H p o a = some x
    rw [upd_ne (ne_of_none e h0)]
    exact g.keep a x e n
  · show upd W.H p o a ≠ none
    by_cases z : a = p
    · subst z; rw [upd_same]; simp
    · rw [upd_ne z]; exact g.live a e
end

structure Gs {M : Ghost} (W W' : Wd M) : Prop where
  sub : Same W.F W'.F
  ix : ∀ (k : Nat) a, W.R[k]? = some a → W'.R[k]? = some a
section
variable {M : Ghost} {W W1 W2 : Wd M}
theorem Gs.refl (W : Wd M) : Gs W W := ⟨Same.refl _, fun _ _ h => h⟩
theorem Gs.trans (a : Gs W W1) (b : Gs W1 W2) : Gs W W2 := ⟨a.sub.trans b.sub, fun k c h => b.ix k c (a.ix k c h)⟩
theorem Go.s (g : Go W W1) : Gs W W1 := ⟨g.sub, g.ix⟩
theorem Rp.gs {K : PySem.W.Frag} {v : V} {d : D} (h : Rp K W.F W.R v d) (g : Gs W W1) : Rp K W1.F W1.R v d := h.mono g.sub g.ix
theorem RpA.gs {K : PySem.W.Frag} {v : List V} {d : List D} (h : RpA K W.F W.R v d) (g : Gs W W1) : RpA K W1.F W1.R v d := h.mono g.sub g.ix
end

inductive Sl where
  | no | im (d : D) | own (ds : List D) | odt (kds : List (Key × D))
/-- a list or a dict of one's own -/
def Sl.isOwn : Sl → Bool
  | .own _ => true
  | .odt _ => true
  | _ => false
abbrev DEnv := List Sl
/-- an exception of the text: its class by name, its fields -/
structure Exn where
  cls : Str
  ns : List Str
  ds : List D
structure Ct (M : Ghost) where
  X : Cx
  W0 : Wd M
  EX : Exn → DEnv → M.G → Prop
  B : Wd M
section
variable {M : Ghost}
def SlOk (C : Ct M) (W : Wd M) : Sl → Option V → Prop
  | .no, _ => True
  | .im d, o => ∃ v, o = some v ∧ Rp C.X.K W.F W.R v d
  | .own ds, o => ∃ p vs, o = some (.ref p) ∧ W.H p = some (.lst vs) ∧ W.F p = none ∧ p ∉ W.R ∧ C.W0.H p = none ∧ RpA C.X.K W.F W.R vs ds
  | .odt kds, o => ∃ p kvs, o = some (.ref p) ∧ W.H p = some (.dK kvs) ∧ W.F p = none ∧ p ∉ W.R ∧ C.W0.H p = none ∧ RpK C.X.K W.F W.R kvs kds
theorem SlOk.live {C : Ct M} {W : Wd M} {s : Sl} {o : Option V} (h : SlOk C W s o) (ow : s.isOwn = true) : ∃ p u, o = some (.ref p) ∧ W.H p = some u ∧ W.F p = none ∧ p ∉ W.R ∧ C.W0.H p = none := by
  cases s with
  | no => cases ow
  | im d => cases ow
  | own ds =>
    obtain ⟨p, vs, e, h1, h2, h3, h4, r⟩ := h
    exact ⟨p, _, e, h1, h2, h3, h4⟩
  | odt ds =>
    obtain ⟨p, vs, e, h1, h2, h3, h4, r⟩ := h
    exact ⟨p, _, e, h1, h2, h3, h4⟩
structure Sat (C : Ct M) (σ : St) (ρ : DEnv) (W : Wd M) : Prop where
  ok : Wok C.X.K W
  go : Go C.W0 W
  len : σ.length = ρ.length
  sl : ∀ (i : Nat) s, ρ[i]? = some s → ∃ o, σ[i]? = some o ∧ SlOk C W s o
  dis : ∀ (i j : Nat) s t p, ρ[i]? = some s → ρ[j]? = some t → s.isOwn = true → t.isOwn = true → σ[i]? = some (some (.ref p)) → σ[j]? = some (some (.ref p)) → i = j
  gs : Gs C.B W
variable {C : Ct M} {W W1 W' : Wd M} {σ : St} {ρ : DEnv}
theorem SlOk.step {s : Sl} {o : Option V} (h : SlOk C W s o) (g : Go W W1) : SlOk C W1 s o := by
  cases s with
  | no => trivial
  | im d =>
    obtain ⟨v, e, r⟩ := h
    exact ⟨v, e, r.step g⟩
  | own ds =>
    obtain ⟨p, vs, e, h1, h2, h3, h4, r⟩ := h
    refine ⟨p, vs, e, g.keep _ _ h1 h3, ?_, g.notR (by rw [h1]; simp) h3, h4, r.step g⟩
    cases q : W1.F p with
    | none => rfl
    | some o =>
      rcases g.young p (by rw [q]; simp) with z | z
      · exact absurd h2 z
      · rw [h1] at z; cases z
  | odt ds =>
    obtain ⟨p, vs, e, h1, h2, h3, h4, r⟩ := h
    refine ⟨p, vs, e, g.keep _ _ h1 h3, ?_, g.notR (by rw [h1]; simp) h3, h4, r.step g⟩
    cases q : W1.F p with
    | none => rfl
    | some o =>
      rcases g.young p (by rw [q]; simp) with z | z
      · exact absurd h2 z
      · rw [h1] at z; cases z
theorem Sat.step (S : Sat C σ ρ W) (g : Go W W1) (k : Wok C.X.K W1) : Sat C σ ρ W1 :=
  ⟨k, S.go.trans g, S.len, fun i s e => let ⟨o, h1, h2⟩ := S.sl i s e; ⟨o, h1, h2.step g⟩, S.dis, S.gs.trans g.s⟩

abbrev EW (M : Ghost) := DEnv → M.G → (D → M.G → Prop) → Prop
def tOf (X : Cx) (e : Expr) : TE := fun σ H Q => ∀ (pins : List (Addr × Obj)) (s : Shared), Inv X pins σ H s → wpAny (model X.prog X.w) X.A (eval e X.env) (EP X pins σ Q) X.xe s
theorem pe_tOf {X : Cx} {e : Expr} : PE X e (tOf X e) := ⟨fun pins s _ _ _ I h => h pins s I⟩
theorem tOf_of {X : Cx} {e : Expr} {t : TE} (h : PE X e t) {σ : St} {H : Hp} {Q : VK} (q : t σ H Q) : tOf X e σ H Q := fun pins s I => h.run pins s σ H Q I q
/-- a value that may be looked at now: it stands still, or it is a list of one's own -/
def RdP (K : PySem.W.Frag) (W : Wd M) (v : V) (d : D) : Prop := Rp K W.F W.R v d ∨ ∃ p vs ds, v = .ref p ∧ d = .lst ds ∧ W.H p = some (.lst vs) ∧ p ∉ W.R ∧ RpA K W.F W.R vs ds
theorem RdP.step {K : PySem.W.Frag} {v : V} {d : D} (h : RdP K W v d) (g : Go W W1) : RdP K W1 v d := by
  rcases h with h | ⟨p, vs, ds, e1, e2, h, n, r⟩
  · exact .inl (h.step g)
  · exact .inr ⟨p, vs, ds, e1, e2, g.keep _ _ h n, g.notR (by rw [h]; simp) n, r.step g⟩
/-- the value of an expression that stands still -/
structure DE (C : Ct M) (e : Expr) (w : EW M) : Prop where
  run : ∀ (σ : St) (ρ : DEnv) (W : Wd M) (Q : VK) (q : D → M.G → Prop), Sat C σ ρ W → (∀ v d W', Go W W' → Wok C.X.K W' → Rp C.X.K W'.F W'.R v d → q d W'.g → Q v W'.H) → w ρ W.g q → tOf C.X e σ W.H Q
/-- one that is looked at -/
structure DP (C : Ct M) (e : Expr) (w : EW M) : Prop where
  run : ∀ (σ : St) (ρ : DEnv) (W : Wd M) (Q : VK) (q : D → M.G → Prop), Sat C σ ρ W → (∀ v d W', Go W W' → Wok C.X.K W' → RdP C.X.K W' v d → q d W'.g → Q v W'.H) → w ρ W.g q → tOf C.X e σ W.H Q
/-- what a slot may take -/
def Fresh (K : PySem.W.Frag) (W W' : Wd M) : V → Sl → Prop
  | _, .no => True
  | v, .im d => Rp K W'.F W'.R v d
  | v, .own ds => ∃ p vs, v = .ref p ∧ W'.H p = some (.lst vs) ∧ W'.F p = none ∧ p ∉ W'.R ∧ W.H p = none ∧ RpA K W'.F W'.R vs ds
  | v, .odt kds => ∃ p kvs, v = .ref p ∧ W'.H p = some (.dK kvs) ∧ W'.F p = none ∧ p ∉ W'.R ∧ W.H p = none ∧ RpK K W'.F W'.R kvs kds
theorem Fresh.live {K : PySem.W.Frag} {W W' : Wd M} {v : V} {s : Sl} (f : Fresh K W W' v s) (ow : s.isOwn = true) : ∃ p u, v = .ref p ∧ W'.H p = some u ∧ W'.F p = none ∧ p ∉ W'.R ∧ W.H p = none := by
  cases s with
  | no => cases ow
  | im d => cases ow
  | own ds =>
    obtain ⟨p, vs, e, h1, h2, h3, h4, r⟩ := f
    exact ⟨p, _, e, h1, h2, h3, h4⟩
  | odt ds =>
    obtain ⟨p, vs, e, h1, h2, h3, h4, r⟩ := f
    exact ⟨p, _, e, h1, h2, h3, h4⟩
abbrev VW (M : Ghost) := DEnv → M.G → (Sl → M.G → Prop) → Prop
structure DV (C : Ct M) (e : Expr) (w : VW M) : Prop where
  run : ∀ (σ : St) (ρ : DEnv) (W : Wd M) (Q : VK) (q : Sl → M.G → Prop), Sat C σ ρ W → (∀ v s W', Go W W' → Wok C.X.K W' → Fresh C.X.K W W' v s → q s W'.g → Q v W'.H) → w ρ W.g q → tOf C.X e σ W.H Q
/-- a new list -/
abbrev NW (M : Ghost) := DEnv → M.G → (List D → M.G → Prop) → Prop
structure DN (C : Ct M) (e : Expr) (w : NW M) : Prop where
  run : ∀ (σ : St) (ρ : DEnv) (W : Wd M) (Q : VK) (q : List D → M.G → Prop), Sat C σ ρ W → (∀ p vs ds W', Go W W' → Wok C.X.K W' → W'.H p = some (.lst vs) → W'.F p = none → p ∉ W'.R → W.H p = none → RpA C.X.K W'.F W'.R vs ds → q ds W'.g → Q (.ref p) W'.H) → w ρ W.g q → tOf C.X e σ W.H Q
variable {e : Expr} {w : EW M}
@[simp] def wL (w : NW M) : EW M := fun ρ g q => w ρ g fun ds g' => q (.lst ds) g'
@[simp] def wI (w : EW M) : VW M := fun ρ g q => w ρ g fun d g' => q (.im d) g'
@[simp] def wO (w : NW M) : VW M := fun ρ g q => w ρ g fun ds g' => q (.own ds) g'
theorem DE.p (h : DE C e w) : DP C e w := ⟨fun σ ρ W Q q S hQ hw => h.run σ ρ W Q q S (fun v d W' g k r => hQ v d W' g k (.inl r)) hw⟩
theorem DE.v (h : DE C e w) : DV C e (wI w) := ⟨fun σ ρ W Q q S hQ hw => h.run σ ρ W Q _ S (fun v d W' g k r hq => hQ v (.im d) W' g k r hq) hw⟩
theorem DN.v {w : NW M} (h : DN C e w) : DV C e (wO w) := ⟨fun σ ρ W Q q S hQ hw => h.run σ ρ W Q _ S (fun p vs ds W' g k h1 h2 h3 h4 r hq => hQ (.ref p) (.own ds) W' g k ⟨p, vs, rfl, h1, h2, h3, h4, r⟩ hq) hw⟩
theorem DN.p {w : NW M} (h : DN C e w) : DP C e (wL w) := ⟨fun σ ρ W Q q S hQ hw => h.run σ ρ W Q _ S (fun p vs ds W' g k h1 h2 h3 h4 r hq => hQ (.ref p) (.lst ds) W' g k (.inr ⟨p, vs, ds, rfl, rfl, h1, h3, r⟩) hq) hw⟩
theorem DN.fr {w : NW M} (h : DN C e w) : DE C e (wL w) := ⟨fun σ ρ W Q q S hQ hw => h.run σ ρ W Q _ S (fun p vs ds W' g k h1 h2 h3 h4 r hq =>
  hQ (.ref p) (.lst ds) (W'.freeze p (.lst vs)) (Go.freeze g h2 h4) (k.freeze h1 h2 h3) (.lst upd_same (r.mono (same_new h2) fun _ _ z => z)) hq) hw⟩

@[simp] def wVar (i : Nat) : EW M := fun ρ g q => ∃ d, ρ[i]? = some (.im d) ∧ q d g
@[simp] def wPk (i : Nat) : EW M := fun ρ g q => ∃ ds, ρ[i]? = some (.own ds) ∧ q (.lst ds) g
@[simp] def wC (d : D) : EW M := fun _ g q => q d g
theorem de_var {i : Nat} {x : Str} {pos : Pos} (h : PE C.X (.Name x pos) (tVar i)) : DE C (.Name x pos) (wVar i) := ⟨fun σ ρ W Q q S hQ hw => by
  obtain ⟨d, e, hq⟩ := hw
  obtain ⟨o, h1, v, h2, r⟩ := S.sl i _ e
  subst h2
  exact tOf_of h ⟨v, h1, hQ v d W (Go.refl W) S.ok r hq⟩⟩
theorem dp_own {i : Nat} {x : Str} {pos : Pos} (h : PE C.X (.Name x pos) (tVar i)) : DP C (.Name x pos) (wPk i) := ⟨fun σ ρ W Q q S hQ hw => by
  obtain ⟨ds, e, hq⟩ := hw
  obtain ⟨o, h1, p, vs, h2, h3, h4, h5, h6, r⟩ := S.sl i _ e
  subst h2
  exact tOf_of h ⟨.ref p, h1, hQ _ _ W (Go.refl W) S.ok (.inr ⟨p, vs, ds, rfl, rfl, h3, h5, r⟩) hq⟩⟩
theorem de_c {e : Expr} {v : V} {d : D} (h : PE C.X e (tC v)) (r : ∀ F R, Rp C.X.K F R v d) : DE C e (wC d) := ⟨fun σ ρ W Q q S hQ hw => tOf_of h (hQ v d W (Go.refl W) S.ok (r _ _) hw)⟩
theorem de_int {i : Int} {j : Nat} {pos : Pos} : DE C (.Constant (.int i) j pos) (wC (.int i)) := de_c pe_int fun _ _ => .int i
theorem de_bl {b : Bool} {j : Nat} {pos : Pos} : DE C (.Constant (.bool b) j pos) (wC (.bl b)) := de_c pe_bl fun _ _ => .bl b
/-- an operation on two values, by data -/
structure OpD (C : Ct M) (f : Value → Value → Sem Value) (r : D → D → (D → Prop) → Prop) : Prop where
  run : ∃ rr, OpR C.X f rr ∧ ∀ (W : Wd M) (x y : V) (d e : D) (Q : VK) (q : D → Prop), Wok C.X.K W → RdP C.X.K W x d → RdP C.X.K W y e →
    (∀ v d' W', Go W W' → Wok C.X.K W' → W'.g = W.g → Rp C.X.K W'.F W'.R v d' → q d' → Q v W'.H) → r d e q → rr x y W.H Q
/-- .. that makes a new list -/
structure OpN (C : Ct M) (f : Value → Value → Sem Value) (r : D → D → (List D → Prop) → Prop) : Prop where
  run : ∃ rr, OpR C.X f rr ∧ ∀ (W : Wd M) (x y : V) (d e : D) (Q : VK) (q : List D → Prop), Wok C.X.K W → RdP C.X.K W x d → RdP C.X.K W y e →
    (∀ p vs ds W', Go W W' → Wok C.X.K W' → W'.g = W.g → W'.H p = some (.lst vs) → W'.F p = none → p ∉ W'.R → W.H p = none → RpA C.X.K W'.F W'.R vs ds → q ds → Q (.ref p) W'.H) → r d e q → rr x y W.H Q
@[simp] def wBin (r : D → D → (D → Prop) → Prop) (wa wb : EW M) : EW M := fun ρ g q => wa ρ g fun x g1 => wb ρ g1 fun y g2 => r x y fun d => q d g2
@[simp] def wBinN (r : D → D → (List D → Prop) → Prop) (wa wb : EW M) : NW M := fun ρ g q => wa ρ g fun x g1 => wb ρ g1 fun y g2 => r x y fun d => q d g2
variable {a b : Expr} {wa wb : EW M} {pos : Pos} {r : D → D → (D → Prop) → Prop} {rn : D → D → (List D → Prop) → Prop}
theorem two_run {f : Value → Value → Sem Value} {rr : R2} (ha : DP C a wa) (hb : DP C b wb) {Q : VK} {q : D → D → M.G → Prop} (S : Sat C σ ρ W)
    (h : ∀ W1 x y d e, Go W W1 → Wok C.X.K W1 → RdP C.X.K W1 x d → RdP C.X.K W1 y e → q d e W1.g → rr x y W1.H Q) (hw : wa ρ W.g fun x g1 => wb ρ g1 fun y g2 => q x y g2) :
    tOp rr (tOf C.X a) (tOf C.X b) σ W.H Q :=
  ha.run σ ρ W _ _ S (fun v d W1 g1 k1 r1 q1 => hb.run σ ρ W1 _ _ (S.step g1 k1) (fun u e W2 g2 k2 r2 q2 => h W2 v u d e (g1.trans g2) k2 (r1.step g2) r2 q2) q1) hw
theorem de_op {op : Operator} (ho : OpD C (binaryOp op) r) (ha : DP C a wa) (hb : DP C b wb) : DE C (.BinOp a op b pos) (wBin r wa wb) := ⟨fun σ ρ W Q q S hQ hw => by
  obtain ⟨rr, hop, h⟩ := ho.run
  exact tOf_of (pe_op hop pe_tOf pe_tOf) (two_run (f := binaryOp op) ha hb S (fun W1 x y d e g k r1 r2 q1 => h W1 x y d e Q _ k r1 r2 (fun v d' W' g' k' eg r' q' => hQ v d' W' (g.trans g') k' r' (eg ▸ q')) q1) hw)⟩
theorem dn_op {op : Operator} (ho : OpN C (binaryOp op) rn) (ha : DP C a wa) (hb : DP C b wb) : DN C (.BinOp a op b pos) (wBinN rn wa wb) := ⟨fun σ ρ W Q q S hQ hw => by
  obtain ⟨rr, hop, h⟩ := ho.run
  refine tOf_of (pe_op hop pe_tOf pe_tOf) (two_run (f := binaryOp op) ha hb S (fun W1 x y d e g k r1 r2 q1 => h W1 x y d e Q _ k r1 r2 (fun p vs ds W' g' k' eg h1 h2 h3 h4 r' q' => hQ p vs ds W' (g.trans g') k' h1 h2 h3 ?_ r' (eg ▸ q')) q1) hw)
  cases z : W.H p with
  | none => rfl
  | some o => exact absurd h4 (g.live p (by rw [z]; simp))⟩
abbrev TW (M : Ghost) := DEnv → M.G → (Bool → M.G → Prop) → Prop
def ttOf (X : Cx) (e : Expr) : TT := fun σ H Q => ∀ (pins : List (Addr × Obj)) (s : Shared), Inv X pins σ H s → wpAny (model X.prog X.w) X.A (isTrue e X.env (eval e X.env)) (TP X pins σ Q) X.xe s
theorem pt_tOf {X : Cx} {e : Expr} : PT X e (ttOf X e) := ⟨fun pins s _ _ _ I h => h pins s I⟩
theorem ttOf_of {X : Cx} {e : Expr} {t : TT} (h : PT X e t) {σ : St} {H : Hp} {Q : Bool → Hp → Prop} (q : t σ H Q) : ttOf X e σ H Q := fun pins s I => h.run pins s σ H Q I q
structure DT (C : Ct M) (e : Expr) (w : TW M) : Prop where
  run : ∀ (σ : St) (ρ : DEnv) (W : Wd M) (Q : Bool → Hp → Prop) (q : Bool → M.G → Prop), Sat C σ ρ W → (∀ b W', Go W W' → Wok C.X.K W' → q b W'.g → Q b W'.H) → w ρ W.g q → ttOf C.X e σ W.H Q
def twOf (X : Cx) (e : Expr) : TT := fun σ H Q => ∀ (whole : Sem Value) (pins : List (Addr × Obj)) (s : Shared), Inv X pins σ H s → wpAny (model X.prog X.w) X.A (isTrue e X.env whole) (TP X pins σ Q) X.xe s
structure DW (C : Ct M) (e : Expr) (w : TW M) : Prop where
  run : ∀ (σ : St) (ρ : DEnv) (W : Wd M) (Q : Bool → Hp → Prop) (q : Bool → M.G → Prop), Sat C σ ρ W → (∀ b W', Go W W' → Wok C.X.K W' → q b W'.g → Q b W'.H) → w ρ W.g q → twOf C.X e σ W.H Q
/-- the truth of a datum that is a bool -/
def isB (d : D) (q : Bool → Prop) : Prop := match d with
  | .bl b => q b
  | _ => False
@[simp] def wB (w : EW M) : TW M := fun ρ g q => w ρ g fun d g' => isB d fun b => q b g'
theorem isB_elim {d : D} {q : Bool → Prop} (h : isB d q) : ∃ b, d = .bl b ∧ q b := by
  cases d <;> first | exact h.elim | exact ⟨_, rfl, h⟩
theorem Rp.bl_inv {K : PySem.W.Frag} {F : Hp} {R : List Addr} {v : V} {b : Bool} (r : Rp K F R v (.bl b)) : v = .bl b := by cases r; rfl
theorem RdP.bl_inv {K : PySem.W.Frag} {v : V} {b : Bool} (r : RdP K W v (.bl b)) : v = .bl b := by
  rcases r with r | ⟨_, _, _, _, e, _⟩
  · exact r.bl_inv
  · cases e
theorem RdP.int_inv {K : PySem.W.Frag} {v : V} {b : Int} (r : RdP K W v (.int b)) : v = .int b := by
  rcases r with r | ⟨_, _, _, _, e, _⟩
  · cases r; rfl
  · cases e
theorem RdP.str_inv {K : PySem.W.Frag} {v : V} {x : List Nat} (r : RdP K W v (.str x)) : ∃ z : Str, v = .str z ∧ z.cps.toList = x := by
  rcases r with r | ⟨_, _, _, _, e, _⟩
  · cases r with
    | str z _ h => exact ⟨z, rfl, h⟩
  · cases e
theorem RdP.lst_inv {K : PySem.W.Frag} {v : V} {ds : List D} (k : Wok K W) (r : RdP K W v (.lst ds)) : ∃ p vs, v = .ref p ∧ W.H p = some (.lst vs) ∧ p ∉ W.R ∧ RpA K W.F W.R vs ds := by
  rcases r with r | ⟨p, vs, es, e1, e2, h, n, r⟩
  · cases r with
    | lst h q => exact ⟨_, _, rfl, k.sub _ _ h, (fun z => by rw [k.rf _ z] at h; cases h), q⟩
  · cases e2
    exact ⟨p, vs, e1, h, n, r⟩
theorem RdP.tup_inv {K : PySem.W.Frag} {v : V} {ds : List D} (r : RdP K W v (.tup ds)) : ∃ p vs, v = .ref p ∧ SqT K W.F p vs ∧ RpA K W.F W.R vs ds := by
  rcases r with r | ⟨_, _, _, _, e, _⟩
  · cases r with
    | tup h q => exact ⟨_, _, rfl, h, q⟩
  · cases e
theorem dt_cmp {op : CmpOp} (ho : OpD C (compareOp op) r) (ha : DP C a wa) (hb : DP C b wb) (hm : behindInMarks op b = false) : DT C (.Compare a [op] [b] pos) (wB (wBin r wa wb)) := ⟨fun σ ρ W Q q S hQ hw => by
  obtain ⟨rr, hop, h⟩ := ho.run
  exact ttOf_of (pt_cmpR hop pe_tOf pe_tOf hm) (two_run (f := compareOp op) ha hb S (fun W1 x y d e g k r1 r2 q1 => h W1 x y d e _ _ k r1 r2 (fun v d' W' g' k' eg r' q' => by
    obtain ⟨c, rfl, q2⟩ := isB_elim q'
    exact ⟨c, r'.bl_inv, hQ c W' (g.trans g') k' (eg ▸ q2)⟩) q1) hw)⟩
variable {wt wu : TW M} {rest : List Expr}
theorem DW.t (h : DW C e wt) : DT C e wt := ⟨fun σ ρ W Q q S hQ hw pins s I => h.run σ ρ W Q q S hQ hw _ pins s I⟩
@[simp] def wIf (w : TW M) (wa wb : EW M) : EW M := fun ρ g q => w ρ g fun b g' => if b = true then wa ρ g' q else wb ρ g' q
theorem de_if {c : Expr} (hc : DT C c wt) (ha : DE C a wa) (hb : DE C b wb) : DE C (.IfExp c a b pos) (wIf wt wa wb) := ⟨fun σ ρ W Q q S hQ hw => tOf_of (pe_ifExp pt_tOf pe_tOf pe_tOf) (hc.run σ ρ W _ _ S (fun c W' g k q1 => by
  cases c with
  | true => exact iteT (ha.run σ ρ W' Q q (S.step g k) (fun v d W2 g2 k2 r2 q2 => hQ v d W2 (g.trans g2) k2 r2 q2) q1)
  | false => exact iteF (hb.run σ ρ W' Q q (S.step g k) (fun v d W2 g2 k2 r2 q2 => hQ v d W2 (g.trans g2) k2 r2 q2) q1)) hw)⟩
end
end DL
set_option Elab.async false
set_option linter.all false
set_option maxRecDepth 100000
set_option maxHeartbeats 1000000
namespace DL
open PySem L2

section
variable {M : Ghost} {C : Ct M} {W W1 W2 W' : Wd M} {σ : L2.St} {ρ : DEnv}
structure K3 (M : Ghost) where
  nx : DEnv → M.G → Prop
  rt : D → M.G → Prop
  bk : DEnv → M.G → Prop
  ct : DEnv → M.G → Prop
abbrev SW (M : Ghost) := K3 M → DEnv → M.G → Prop
/-- what is wanted by data is what is wanted by the heap -/
structure Lf (C : Ct M) (W : Wd M) (k : K3 M) (E : Ends) : Prop where
  nx : ∀ σ' ρ' W', Gs W W' → Sat C σ' ρ' W' → k.nx ρ' W'.g → E.nx σ' W'.H
  rt : ∀ v d W', Go C.W0 W' → Wok C.X.K W' → Rp C.X.K W'.F W'.R v d → k.rt d W'.g → E.rt v W'.H
  bk : ∀ σ' ρ' W', Gs W W' → Sat C σ' ρ' W' → k.bk ρ' W'.g → E.bk σ' W'.H
  ct : ∀ σ' ρ' W', Gs W W' → Sat C σ' ρ' W' → k.ct ρ' W'.g → E.ct σ' W'.H
theorem Lf.step {k : K3 M} {E : Ends} (l : Lf C W k E) (g : Gs W W1) : Lf C W1 k E :=
  ⟨fun σ' ρ' W' g' => l.nx σ' ρ' W' (g.trans g'), l.rt, fun σ' ρ' W' g' => l.bk σ' ρ' W' (g.trans g'), fun σ' ρ' W' g' => l.ct σ' ρ' W' (g.trans g')⟩
def tsOf (X : Cx) (st : Stmt) : TS := fun D σ H => ∀ (pins : List (Addr × Obj)) (s : Shared), Inv X pins σ H s → wpAny (model X.prog X.w) X.A (exec st X.env) (SP X pins D) X.xe s
theorem ps_tOf {X : Cx} {st : Stmt} : PS X st (tsOf X st) := ⟨fun pins s _ _ _ I h => h pins s I⟩
theorem tsOf_of {X : Cx} {st : Stmt} {t : TS} (h : PS X st t) {E : Ends} {H : Hp} (q : t E σ H) : tsOf X st E σ H := fun pins s I => h.run pins s σ H E I q
def tssOf (X : Cx) (st : List Stmt) : TS := fun D σ H => ∀ (pins : List (Addr × Obj)) (s : Shared), Inv X pins σ H s → wpAny (model X.prog X.w) X.A (execs st X.env) (SP X pins D) X.xe s
theorem pss_tOf {X : Cx} {st : List Stmt} : PSs X st (tssOf X st) := ⟨fun pins s _ _ _ I h => h pins s I⟩
theorem tssOf_of {X : Cx} {st : List Stmt} {t : TS} (h : PSs X st t) {E : Ends} {H : Hp} (q : t E σ H) : tssOf X st E σ H := fun pins s I => h.run pins s σ H E I q
structure DS (C : Ct M) (st : Stmt) (w : SW M) : Prop where
  run : ∀ (σ : L2.St) (ρ : DEnv) (W : Wd M) (k : K3 M) (E : Ends), Sat C σ ρ W → Lf C W k E → w k ρ W.g → tsOf C.X st E σ W.H
structure DSs (C : Ct M) (st : List Stmt) (w : SW M) : Prop where
  run : ∀ (σ : L2.St) (ρ : DEnv) (W : Wd M) (k : K3 M) (E : Ends), Sat C σ ρ W → Lf C W k E → w k ρ W.g → tssOf C.X st E σ W.H
variable {st : Stmt} {sts : List Stmt} {w u : SW M} {e : Expr} {we : EW M} {pos : Pos}
@[simp] def wNext : SW M := fun k ρ g => k.nx ρ g
@[simp] def wSeq (w u : SW M) : SW M := fun k ρ g => w { k with nx := u k } ρ g
theorem dss_nil : DSs C [] wNext := ⟨fun σ ρ W k E S l h => tssOf_of pss_nil (l.nx σ ρ W (Gs.refl W) S h)⟩
theorem dss_cons (h1 : DS C st w) (h2 : DSs C sts u) : DSs C (st :: sts) (wSeq w u) := ⟨fun σ ρ W k E S l h =>
  tssOf_of (pss_cons ps_tOf pss_tOf) (h1.run σ ρ W { k with nx := u k } _ S ⟨fun σ' ρ' W' g S' q => h2.run σ' ρ' W' k E S' (l.step g) q, l.rt, l.bk, l.ct⟩ h)⟩
theorem dss_one (h1 : DS C st w) : DSs C [st] w := ⟨fun σ ρ W k E S l h => tssOf_of (pss_one ps_tOf) (h1.run σ ρ W _ _ S l h)⟩
@[simp] def wRet (w : EW M) : SW M := fun k ρ g => w ρ g k.rt
theorem ds_ret (he : DE C e we) : DS C (.Return (some e) pos) (wRet we) := ⟨fun σ ρ W k E S l h =>
  tsOf_of (ps_ret pe_tOf) (he.run σ ρ W _ _ S (fun v d W' g ok r q => l.rt v d W' (S.go.trans g) ok r q) h)⟩
/-- return of a list of one's own: it is frozen -/
@[simp] def wRetO (i : Nat) : SW M := fun k ρ g => ∃ ds, ρ[i]? = some (.own ds) ∧ k.rt (.lst ds) g
theorem ds_retO {i : Nat} {x : Str} {pos' : Pos} (h : PE C.X (.Name x pos') (tVar i)) : DS C (.Return (some (.Name x pos')) pos) (wRetO i) := ⟨fun σ ρ W k E S l hw => by
  obtain ⟨ds, e, hq⟩ := hw
  obtain ⟨o, h1, p, vs, h2, h3, h4, h5, h6, r⟩ := S.sl i _ e
  subst h2
  exact tsOf_of (ps_ret h) ⟨.ref p, h1, l.rt _ _ (W.freeze p (.lst vs)) (Go.freeze S.go h4 h6) (S.ok.freeze h3 h4 h5) (.lst upd_same (r.mono (same_new h4) fun _ _ z => z)) hq⟩⟩
@[simp] def wIfS (c : TW M) (w u : SW M) : SW M := fun k ρ g => c ρ g fun b g' => if b = true then w k ρ g' else u k ρ g'
theorem ds_if {c : Expr} {a b : List Stmt} {wc : TW M} (hc : DT C c wc) (ha : DSs C a w) (hb : DSs C b u) : DS C (.If c a b pos) (wIfS wc w u) := ⟨fun σ ρ W k E S l h =>
  tsOf_of (ps_if pt_tOf pss_tOf pss_tOf) (hc.run σ ρ W _ _ S (fun b W' g ok q => by
    cases b with
    | true => exact iteT (ha.run σ ρ W' k E (S.step g ok) (l.step g.s) q)
    | false => exact iteF (hb.run σ ρ W' k E (S.step g ok) (l.step g.s) q)) h)⟩

theorem slOk_fresh (S : Sat C σ ρ W) (g : Go W W') {v : V} {s : Sl} (f : Fresh C.X.K W W' v s) : SlOk C W' s (some v) := by
  have old : ∀ p, W.H p = none → C.W0.H p = none := fun p h4 => by
    cases q : C.W0.H p with
    | none => rfl
    | some o => exact absurd h4 (S.go.live p (by rw [q]; simp))
  cases s with
  | no => trivial
  | im d => exact ⟨v, rfl, f⟩
  | own ds =>
    obtain ⟨p, vs, e, h1, h2, h3, h4, r⟩ := f
    exact ⟨p, vs, by rw [e], h1, h2, h3, old p h4, r⟩
  | odt ds =>
    obtain ⟨p, vs, e, h1, h2, h3, h4, r⟩ := f
    exact ⟨p, vs, by rw [e], h1, h2, h3, old p h4, r⟩
theorem own_live (S : Sat C σ ρ W) {m : Nat} {t : Sl} {p : Addr} (ow : t.isOwn = true) (e1 : ρ[m]? = some t) (e2 : σ[m]? = some (some (.ref p))) : W.H p ≠ none := by
  obtain ⟨o, h1, h2⟩ := S.sl m _ e1
  obtain ⟨q, u, h3, h4, _⟩ := h2.live ow
  rw [e2] at h1
  cases h1
  cases h3
  rw [h4]
  simp
/-- a value put into a slot that stands apart from the others -/
theorem Sat.puts (S : Sat C σ ρ W) {v : V} {s : Sl} (f : SlOk C W s (some v)) (i : Nat) (ap : ∀ p, s.isOwn = true → v = .ref p → ∀ (m : Nat) t, t.isOwn = true → m ≠ i → ρ[m]? = some t → σ[m]? ≠ some (some (.ref p))) :
    Sat C (σ.set i (some v)) (ρ.set i s) W := by
  refine ⟨S.ok, S.go, by rw [List.length_set, List.length_set, S.len], fun j t e => ?_, fun j l d1 d2 q e1 e2 w1 w2 e3 e4 => ?_, S.gs⟩
  · by_cases hij : i = j
    · subst hij
      have hlt : i < ρ.length := by
        have := (List.getElem?_eq_some_iff.mp e).1
        rwa [List.length_set] at this
      rw [List.getElem?_set_self hlt] at e
      cases e
      exact ⟨some v, List.getElem?_set_self (by rw [S.len]; exact hlt), f⟩
    · rw [List.getElem?_set_ne hij] at e
      obtain ⟨o, h1, h2⟩ := S.sl j t e
      exact ⟨o, by rw [List.getElem?_set_ne hij]; exact h1, h2⟩
  · have here : ∀ (m : Nat) d, i = m → (ρ.set i s)[m]? = some d → (σ.set i (some v))[m]? = some (some (.ref q)) → s = d ∧ v = .ref q := fun m d hm e1 e2 => by
      subst hm
      have hlt : i < ρ.length := by
        have := (List.getElem?_eq_some_iff.mp e1).1
        rwa [List.length_set] at this
      rw [List.getElem?_set_self hlt] at e1
      rw [List.getElem?_set_self (by rw [S.len]; exact hlt)] at e2
      exact ⟨Option.some.inj e1, Option.some.inj (Option.some.inj e2)⟩
    by_cases hj : i = j
    · by_cases hl : i = l
      · exact hj.symm.trans hl
      · obtain ⟨h1, h2⟩ := here j d1 hj e1 e3
        rw [List.getElem?_set_ne hl] at e2 e4
        exact absurd e4 (ap _ (h1 ▸ w1) h2 l d2 w2 (fun z => hl z.symm) e2)
    · by_cases hl : i = l
      · obtain ⟨h1, h2⟩ := here l d2 hl e2 e4
        rw [List.getElem?_set_ne hj] at e1 e3
        exact absurd e3 (ap _ (h1 ▸ w2) h2 j d1 w1 (fun z => hj z.symm) e1)
      · rw [List.getElem?_set_ne hj] at e1 e3
        rw [List.getElem?_set_ne hl] at e2 e4
        exact S.dis j l d1 d2 q e1 e2 w1 w2 e3 e4
theorem fresh_dead {K : PySem.W.Frag} {v : V} {s : Sl} {p : Addr} (f : Fresh K W W' v s) (ow : s.isOwn = true) (e : v = .ref p) : W.H p = none := by
  obtain ⟨p', u, e', h1, h2, h3, h4⟩ := f.live ow
  rw [e] at e'
  cases e'
  exact h4
theorem fresh_live {K : PySem.W.Frag} {v : V} {s : Sl} {p : Addr} (f : Fresh K W W' v s) (ow : s.isOwn = true) (e : v = .ref p) : W'.H p ≠ none := by
  obtain ⟨p', u, e', h1, h2, h3, h4⟩ := f.live ow
  rw [e] at e'
  cases e'
  rw [h1]
  simp
theorem Sat.set (S : Sat C σ ρ W) (g : Go W W') (ok : Wok C.X.K W') {v : V} {s : Sl} (f : Fresh C.X.K W W' v s) (i : Nat) : Sat C (σ.set i (some v)) (ρ.set i s) W' :=
  (S.step g ok).puts (slOk_fresh S g f) i fun p w1 e m t w2 _ e1 e2 => own_live S w2 e1 e2 (fresh_dead f w1 e)
@[simp] def wSet (i : Nat) (w : VW M) : SW M := fun k ρ g => w ρ g fun s g' => k.nx (ρ.set i s) g'
theorem ds_set {i : Nat} {x : Str} {pos' : Pos} {wv : VW M} (hN : C.X.N.Nodup) (hi : C.X.N[i]? = some x) (hx : Loc C.X.env.scope x) (he : DV C e wv) (hs : swapsWith e (some (.Name x pos')) pos.line C.X.env = pure false := by rfl)
    (hf : C.X.fn x = true ∨ C.X.env.scope.names.lookup x = some .local := by first | exact .inl rfl | exact .inr rfl | assumption) : DS C (.Assign [.Name x pos'] e pos) (wSet i wv) := ⟨fun σ ρ W k E S l h =>
  tsOf_of (ps_set hN hi hx pe_tOf hs hf) (he.run σ ρ W _ _ S (fun v s W' g ok f q => l.nx _ _ W' g.s (S.set g ok f i) q) h)⟩
/-- a thing of one's own, written -/
theorem Sat.writeG (S : Sat C σ ρ W) {i : Nat} {s0 s1 : Sl} {p : Addr} {u : HO} (e : ρ[i]? = some s0) (ow : s0.isOwn = true) (ow1 : s1.isOwn = true) (hp : σ[i]? = some (some (.ref p))) (f : W.F p = none → p ∉ W.R → C.W0.H p = none → SlOk C (W.put p u) s1 (some (.ref p))) :
    Sat C σ (ρ.set i s1) (W.put p u) ∧ Gs W (W.put p u) := by
  obtain ⟨o, h1, h2⟩ := S.sl i _ e
  obtain ⟨p', v, h2, h3, h4, h5, h6⟩ := h2.live ow
  rw [hp] at h1
  cases h1
  cases h2
  have hlt : i < ρ.length := (List.getElem?_eq_some_iff.mp e).1
  refine ⟨⟨S.ok.put h4 h5, S.go.put h6, by rw [List.length_set]; exact S.len, fun j t ej => ?_, fun j l d1 d2 q e1 e2 w1 w2 e3 e4 => ?_, S.gs.trans ⟨Same.refl _, fun _ _ h => h⟩⟩, Same.refl _, fun _ _ h => h⟩
  · by_cases hij : i = j
    · subst hij
      rw [List.getElem?_set_self hlt] at ej
      cases ej
      exact ⟨_, hp, f h4 h5 h6⟩
    · rw [List.getElem?_set_ne hij] at ej
      obtain ⟨o, q1, q2⟩ := S.sl j t ej
      refine ⟨o, q1, ?_⟩
      have ne : ∀ p2, t.isOwn = true → o = some (.ref p2) → upd W.H p u p2 = W.H p2 := fun p2 wt eo => upd_ne (fun z => hij (by subst z; exact S.dis i j _ _ p2 e ej ow wt hp (eo ▸ q1)))
      cases t with
      | no => trivial
      | im d => exact q2
      | own d2 =>
        obtain ⟨p2, v2, a1, a2, a3, a4, a5, a6⟩ := q2
        exact ⟨p2, v2, a1, (ne p2 rfl a1).trans a2, a3, a4, a5, a6⟩
      | odt d2 =>
        obtain ⟨p2, v2, a1, a2, a3, a4, a5, a6⟩ := q2
        exact ⟨p2, v2, a1, (ne p2 rfl a1).trans a2, a3, a4, a5, a6⟩
  · have back : ∀ (j : Nat) d, (ρ.set i s1)[j]? = some d → d.isOwn = true → ∃ d', ρ[j]? = some d' ∧ d'.isOwn = true := fun j d ej wd => by
      by_cases hij : i = j
      · subst hij; exact ⟨_, e, ow⟩
      · rw [List.getElem?_set_ne hij] at ej; exact ⟨_, ej, wd⟩
    obtain ⟨d1', e1', w1'⟩ := back j d1 e1 w1
    obtain ⟨d2', e2', w2'⟩ := back l d2 e2 w2
    exact S.dis j l _ _ q e1' e2' w1' w2' e3 e4
/-- a list of one's own, written -/
theorem Sat.write (S : Sat C σ ρ W) {i : Nat} {ds : List D} {p : Addr} {ws : List V} {es : List D} (e : ρ[i]? = some (.own ds)) (hp : σ[i]? = some (some (.ref p))) (r : RpA C.X.K W.F W.R ws es) :
    Sat C σ (ρ.set i (.own es)) (W.put p (.lst ws)) ∧ Gs W (W.put p (.lst ws)) :=
  S.writeG e rfl rfl hp fun h4 h5 h6 => ⟨p, ws, rfl, upd_same, h4, h5, h6, r⟩
/-- freezing a slot, where nothing is done -/
theorem Sat.frz (S : Sat C σ ρ W) {i : Nat} {ds : List D} (e : ρ[i]? = some (.own ds)) : ∃ W', W'.H = W.H ∧ W'.g = W.g ∧ Gs W W' ∧ Sat C σ (ρ.set i (.im (.lst ds))) W' := by
  obtain ⟨o, h1, p, vs, h2, h3, h4, h5, h6, r⟩ := S.sl i _ e
  subst h2
  have hlt : i < ρ.length := (List.getElem?_eq_some_iff.mp e).1
  have rr : ∀ {v d}, Rp C.X.K W.F W.R v d → Rp C.X.K (upd W.F p (.lst vs)) W.R v d := fun h => h.mono (same_new h4) fun _ _ z => z
  refine ⟨W.freeze p (.lst vs), rfl, rfl, ⟨same_new h4, fun _ _ h => h⟩, S.ok.freeze h3 h4 h5, Go.freeze S.go h4 h6, by rw [List.length_set]; exact S.len, fun j t ej => ?_, fun j l d1 d2 q e1 e2 w1 w2 e3 e4 => ?_, S.gs.trans ⟨same_new h4, fun _ _ h => h⟩⟩
  · by_cases hij : i = j
    · subst hij
      rw [List.getElem?_set_self hlt] at ej
      cases ej
      exact ⟨_, h1, .ref p, rfl, .lst upd_same (r.mono (same_new h4) fun _ _ z => z)⟩
    · rw [List.getElem?_set_ne hij] at ej
      obtain ⟨o, q1, q2⟩ := S.sl j t ej
      refine ⟨o, q1, ?_⟩
      have ne : ∀ p2, t.isOwn = true → o = some (.ref p2) → upd W.F p (.lst vs) p2 = W.F p2 := fun p2 wt eo => upd_ne (fun z => hij (by subst z; exact S.dis i j _ _ p2 e ej rfl wt h1 (eo ▸ q1)))
      cases t with
      | no => trivial
      | im d =>
        obtain ⟨v, a1, a2⟩ := q2
        exact ⟨v, a1, rr a2⟩
      | own d2 =>
        obtain ⟨p2, v2, a1, a2, a3, a4, a5, a6⟩ := q2
        exact ⟨p2, v2, a1, a2, (ne p2 rfl a1).trans a3, a4, a5, a6.mono (same_new h4) fun _ _ z => z⟩
      | odt d2 =>
        obtain ⟨p2, v2, a1, a2, a3, a4, a5, a6⟩ := q2
        exact ⟨p2, v2, a1, a2, (ne p2 rfl a1).trans a3, a4, a5, a6.mono (same_new h4) fun _ _ z => z⟩
  · have back : ∀ (j : Nat) d, (ρ.set i (.im (.lst ds)))[j]? = some d → d.isOwn = true → ρ[j]? = some d := fun j d ej wd => by
      by_cases hij : i = j
      · subst hij
        rw [List.getElem?_set_self hlt] at ej
        cases ej
        cases wd
      · rw [List.getElem?_set_ne hij] at ej; exact ej
    exact S.dis j l _ _ q (back j d1 e1 w1) (back l d2 e2 w2) w1 w2 e3 e4
@[simp] def wFrz (i : Nat) (w : SW M) : SW M := fun k ρ g => ∃ ds, ρ[i]? = some (.own ds) ∧ w k (ρ.set i (.im (.lst ds))) g
theorem dss_frz (i : Nat) (h : DSs C sts w) : DSs C sts (wFrz i w) := ⟨fun σ ρ W k E S l hw => by
  obtain ⟨ds, e, hw⟩ := hw
  obtain ⟨W', e1, e2, g, S'⟩ := S.frz e
  rw [← e1]
  exact h.run σ _ W' k E S' (l.step g) (by rw [e2]; exact hw)⟩

abbrev GW := D → DEnv → (DEnv → Prop) → Prop
abbrev GWs := List D → DEnv → (DEnv → Prop) → Prop
def tgOf (X : Cx) (tg : Expr) : TG := fun v σ H Q => ∀ (pins : List (Addr × Obj)) (s : Shared) (u : Value), Inv X pins σ H s → RelV v u →
  wpAny (model X.prog X.w) X.A (assign tg X.env u) (fun _ s' => ∃ σ' H', Inv X pins σ' H' s' ∧ Q σ' H') X.xe s
theorem pg_tOf {X : Cx} {tg : Expr} : PG X tg (tgOf X tg) := ⟨fun pins s _ _ _ u _ I r h => h pins s u I r⟩
theorem tgOf_of {X : Cx} {tg : Expr} {t : TG} (h : PG X tg t) {v : V} {H : Hp} {Q : L2.St → Hp → Prop} (q : t v σ H Q) : tgOf X tg v σ H Q := fun pins s u I r => h.run pins s σ H v u Q I r q
def tgsOf (X : Cx) (ts : List Expr) : TGs := fun vs σ H Q => ∀ (pins : List (Addr × Obj)) (s : Shared) (us : List Value), Inv X pins σ H s → Vals vs us →
  wpAny (model X.prog X.w) X.A (assignInOrder ((assignEach ts X.env).map (·.2)) us) (fun _ s' => ∃ σ' H', Inv X pins σ' H' s' ∧ Q σ' H') X.xe s
theorem pgs_tOf {X : Cx} {ts : List Expr} : PGs X ts (tgsOf X ts) := ⟨fun pins s _ _ _ us _ I r h => h pins s us I r⟩
theorem tgsOf_of {X : Cx} {ts : List Expr} {t : TGs} (h : PGs X ts t) {vs : List V} {H : Hp} {Q : L2.St → Hp → Prop} (q : t vs σ H Q) : tgsOf X ts vs σ H Q := fun pins s us I r => h.run pins s σ H vs us Q I r q
structure DG (C : Ct M) (is : List Nat) (tg : Expr) (w : GW) : Prop where
  run : ∀ (σ : L2.St) (ρ : DEnv) (W : Wd M) (v : V) (d : D) (Q : L2.St → Hp → Prop) (q : DEnv → Prop), Sat C σ ρ W → Rp C.X.K W.F W.R v d →
    (∀ σ' ρ', Sat C σ' ρ' W → σ'.length = σ.length → (∀ j, j ∉ is → σ'[j]? = σ[j]?) → q ρ' → Q σ' W.H) → w d ρ q → tgOf C.X tg v σ W.H Q
structure DGs (C : Ct M) (is : List Nat) (ts : List Expr) (w : GWs) : Prop where
  run : ∀ (σ : L2.St) (ρ : DEnv) (W : Wd M) (vs : List V) (ds : List D) (Q : L2.St → Hp → Prop) (q : DEnv → Prop), Sat C σ ρ W → RpA C.X.K W.F W.R vs ds →
    (∀ σ' ρ', Sat C σ' ρ' W → σ'.length = σ.length → (∀ j, j ∉ is → σ'[j]? = σ[j]?) → q ρ' → Q σ' W.H) → w ds ρ q → tgsOf C.X ts vs σ W.H Q
@[simp] def gwN (i : Nat) : GW := fun d ρ q => q (ρ.set i (.im d))
@[simp] def gwNil : GWs := fun ds ρ q => match ds with
  | [] => q ρ
  | _ => False
@[simp] def gwCons (w : GW) (u : GWs) : GWs := fun ds ρ q => match ds with
  | d :: ds => w d ρ fun ρ' => u ds ρ' q
  | [] => False
@[simp] def gwT (n : Nat) (u : GWs) : GW := fun d ρ q => match d with
  | .tup ds => ds.length = n ∧ u ds ρ q
  | _ => False
theorem dg_name {i : Nat} {x : Str} (h : PG C.X (.Name x pos) (gName i)) : DG C [i] (.Name x pos) (gwN i) := ⟨fun σ ρ W v d Q q S r hQ hw =>
  tgOf_of h (hQ _ _ (S.set (Go.refl W) S.ok (s := .im d) r i) (by simp) (fun j hj => by rw [List.getElem?_set_ne (by simpa using Ne.symm (by simpa using hj))]) hw)⟩
theorem dgs_nil : DGs C [] [] gwNil := ⟨fun σ ρ W vs ds Q q S r hQ hw => by
  cases ds with
  | nil =>
    cases r
    exact tgsOf_of pgs_nil ⟨rfl, hQ σ ρ S rfl (fun _ _ => rfl) hw⟩
  | cons d ds => exact hw.elim⟩
theorem dgs_cons {is js : List Nat} {tg : Expr} {ts : List Expr} {gw : GW} {gs : GWs} (h1 : DG C is tg gw) (h2 : DGs C js ts gs)
    (hs : (assignEach (tg :: ts) C.X.env).map (·.2) = assign tg C.X.env :: (assignEach ts C.X.env).map (·.2) := by rfl) : DGs C (is ++ js) (tg :: ts) (gwCons gw gs) := ⟨fun σ ρ W vs ds Q q S r hQ hw => by
  cases ds with
  | nil => exact hw.elim
  | cons d ds =>
    cases r with
    | cons r1 r2 =>
      refine tgsOf_of (pgs_cons pg_tOf pgs_tOf hs) ⟨_, _, rfl, h1.run σ ρ W _ d _ _ S r1 (fun σ' ρ' S' l1 k1 q1 => ?_) hw⟩
      refine h2.run σ' ρ' W _ ds _ _ S' r2 (fun σ2 ρ2 S2 l2 k2 q2 => hQ σ2 ρ2 S2 (l2.trans l1) (fun j hj => ?_) q2) q1
      rw [List.mem_append, not_or] at hj
      rw [k2 j hj.2, k1 j hj.1]⟩
theorem dg_tup {is : List Nat} {ts : List Expr} {kk n : Nat} {gs : GWs} (hc : C.X.calm = true) (h : DGs C is ts gs) (hn : (assignEach ts C.X.env).length = n := by rfl) (hst : (assignEach ts C.X.env).findIdx? (·.1) = none := by rfl) :
    DG C is (.Tuple ts kk pos) (gwT n gs) := ⟨fun σ ρ W v d Q q S r hQ hw => by
  cases d with
  | tup ds =>
    cases r with
    | tup hs r2 =>
      refine tgOf_of (pg_tup hc pgs_tOf hn hst) ⟨_, _, rfl, same_tup S.ok.sub hs, by rw [r2.length]; exact hw.1, h.run σ ρ W _ ds _ _ S r2 hQ hw.2⟩
  | _ => exact hw.elim⟩

structure WK (K : PySem.W.Frag) (Ws : Wd M) (J : It) (ds : List D) : Prop where
  go : ∀ (i : Nat) (W : Wd M) d, Gs Ws W → Wok K W → ds[i]? = some d → J.go i W.H ∧ ∀ x H', J.yld i W.H x H' → ∃ W', W'.H = H' ∧ Go W W' ∧ Wok K W' ∧ W'.g = W.g ∧ Rp K W'.F W'.R x d
  stop : ∀ (i : Nat) (W : Wd M), Gs Ws W → Wok K W → ds[i]? = none → J.stop i W.H
abbrev IW (M : Ghost) := DEnv → M.G → (List D → M.G → Prop) → Prop
def iOf (X : Cx) (tg iter : Expr) : TI := fun σ H R => ∀ (pins : List (Addr × Obj)) (s : Shared), Inv X pins σ H s →
  wpAny (model X.prog X.w) X.A (eval iter X.env) (fun v s1 => wpAny (model X.prog X.w) X.A (pyIter v) (PIE X pins σ tg R) X.xe s1) X.xe s
theorem pi_tOf {X : Cx} {tg iter : Expr} : PI X tg iter (iOf X tg iter) := ⟨fun pins s _ _ _ I h => h pins s I⟩
theorem iOf_of {X : Cx} {tg iter : Expr} {t : TI} (h : PI X tg iter t) {H : Hp} {R : It → Hp → Prop} (q : t σ H R) : iOf X tg iter σ H R := fun pins s I => h.run pins s σ H R I q
structure DI (C : Ct M) (tg iter : Expr) (w : IW M) : Prop where
  run : ∀ (σ : L2.St) (ρ : DEnv) (W : Wd M) (R : It → Hp → Prop) (q : List D → M.G → Prop), Sat C σ ρ W → (∀ J ds W', Go W W' → Wok C.X.K W' → WK C.X.K W' J ds → q ds W'.g → R J W'.H) → w ρ W.g q → iOf C.X tg iter σ W.H R
/-- a list, a tuple or a text that stands still -/
def itemsOf : D → Option (List D)
  | .lst ds => some ds
  | .tup ds => some ds
  | .str x => some (x.map fun c => .str [c])
  | _ => none
@[simp] def wItems (w : EW M) : IW M := fun ρ g q => w ρ g fun d g' => ∃ ds, itemsOf d = some ds ∧ q ds g'
def iSeq (K : PySem.W.Frag) (tl : TE) : TI := fun σ H R => tl σ H fun x H1 => (∃ a xs, x = .ref a ∧ SqL K H1 a xs ∧ R (Itl K a) H1) ∨ (∃ a xs, x = .ref a ∧ SqT K H1 a xs ∧ R (Itt K a) H1) ∨ (∃ z, x = .str z ∧ R (Its z) H1)
theorem pi_seq {X : Cx} {tg l : Expr} {tl : TE} (hl : PE X l tl) : PI X tg l (iSeq X.K tl) := by
  refine ⟨fun pins s σ H R I h => ?_⟩
  refine thn (hl.run pins s σ H _ I h) fun v s1 ⟨x, H1, I1, r1, q1⟩ => ?_
  rcases q1 with ⟨a, xs, rfl, hq, q⟩ | ⟨a, xs, rfl, hq, q⟩ | ⟨z, rfl, q⟩
  · cases r1
    obtain ⟨its, rv, p, hz⟩ := I1.list hq
    refine wpAny_pyIter_list p.isList ?_
    refine ⟨s1.heap.objs.size, [s1.heap.objs.size], _, _, H1, rfl, I1.kept (t' := s1.toks) fun b o e => Heap.get?_push_of_some _ e, turn_list a _, ⟨_, Heap.get?_push_size _ rfl, rfl, rfl⟩, fun b hb => ?_, q⟩
    have e : b = s1.heap.objs.size := by simpa using hb
    subst e
    exact I1.fpOk (Nat.le_refl _) (I1.hok.fresh (Nat.le_refl _))
  · cases r1
    obtain ⟨its, rv, p, hz⟩ := I1.tuple hq
    refine wpAny_pyIter_tuple (show s1.heap.IsTuple a its.toArray from p) ?_
    refine ⟨s1.heap.objs.size, [s1.heap.objs.size], _, _, H1, rfl, I1.kept (t' := s1.toks) fun b o e => Heap.get?_push_of_some _ e, turn_tuple a _, ⟨_, Heap.get?_push_size _ rfl, rfl, rfl⟩, fun b hb => ?_, q⟩
    have e : b = s1.heap.objs.size := by simpa using hb
    subst e
    exact I1.fpOk (Nat.le_refl _) (I1.hok.fresh (Nat.le_refl _))
  · obtain ⟨t, rfl⟩ := r1
    cases ha : z.cps.all (· < 128)
    · exact wpAny_pyIter_wide ha (pi_one (tk := s1.toks) I1 _ (turn_str _ z t "str_iterator" (.inr rfl)) ⟨_, Heap.get?_push_size _ rfl, rfl, rfl⟩ q)
    · exact wpAny_pyIter_ascii ha (pi_one (tk := s1.toks) I1 _ (turn_str _ z t "str_ascii_iterator" (.inl rfl)) ⟨_, Heap.get?_push_size _ rfl, rfl, rfl⟩ q)
theorem wk_lst {K : PySem.W.Frag} {a : Addr} {vs : List V} {ds : List D} (h : W.F a = some (.lst vs)) (r : RpA K W.F W.R vs ds) : WK K W (Itl K a) ds where
  go := fun i W1 d g k e => by
    obtain ⟨v, e1, e2⟩ := r.get' e
    have hl : SqL K W1.H a vs := .of (k.sub _ _ (g.sub _ _ h))
    refine ⟨⟨vs, v, hl, e1⟩, fun x H' y => ?_⟩
    obtain ⟨rfl, y⟩ := y
    have ex : x = v := Option.some.inj ((y _ hl).symm.trans e1)
    subst ex
    exact ⟨W1, rfl, Go.refl _, k, rfl, e2.gs g⟩
  stop := fun i W1 g k e => ⟨vs, .of (k.sub _ _ (g.sub _ _ h)), by rw [r.length]; exact List.getElem?_eq_none_iff.mp e⟩
theorem wk_tup {K : PySem.W.Frag} {a : Addr} {vs : List V} {ds : List D} (h : SqT K W.F a vs) (r : RpA K W.F W.R vs ds) : WK K W (Itt K a) ds where
  go := fun i W1 d g k e => by
    obtain ⟨v, e1, e2⟩ := r.get' e
    have hl : SqT K W1.H a vs := same_tup k.sub (same_tup g.sub h)
    refine ⟨⟨vs, v, hl, e1⟩, fun x H' y => ?_⟩
    obtain ⟨rfl, y⟩ := y
    have ex : x = v := Option.some.inj ((y _ hl).symm.trans e1)
    subst ex
    exact ⟨W1, rfl, Go.refl _, k, rfl, e2.gs g⟩
  stop := fun i W1 g k e => ⟨vs, same_tup k.sub (same_tup g.sub h), by rw [r.length]; exact List.getElem?_eq_none_iff.mp e⟩
theorem wk_str {K : PySem.W.Frag} {z : Str} : WK K W (Its z) (z.cps.toList.map fun c => .str [c]) where
  go := fun i W1 d g k e => by
    rw [List.getElem?_map] at e
    cases q : z.cps.toList[i]? with
    | none => rw [q] at e; cases e
    | some c =>
      rw [q] at e
      cases e
      have hi : i < z.cps.size := by
        have := (List.getElem?_eq_some_iff.mp q).1
        simpa using this
      refine ⟨hi, fun x H' y => ?_⟩
      obtain ⟨rfl, c', e1, rfl⟩ := y
      refine ⟨W1, rfl, Go.refl _, k, rfl, .str _ _ ?_⟩
      have : z.cps.toList[i]? = some c' := by simpa using e1
      rw [q] at this
      cases this
      rfl
  stop := fun i W1 g k e => by
    have := List.getElem?_eq_none_iff.mp e
    rw [List.length_map] at this
    show z.cps.size ≤ i
    simpa using this
theorem di_seq {tg : Expr} (he : DE C e we) : DI C tg e (wItems we) := ⟨fun σ ρ W R q S hR hw => iOf_of (pi_seq pe_tOf) (he.run σ ρ W _ _ S (fun v d W' g k r q1 => by
  obtain ⟨ds, e1, q1⟩ := q1
  cases d with
  | lst ds' =>
    cases e1
    cases r with
    | lst h r2 => exact .inl ⟨_, _, rfl, .of (k.sub _ _ h), hR _ _ W' g k (wk_lst h r2) q1⟩
  | tup ds' =>
    cases e1
    cases r with
    | tup h r2 => exact .inr (.inl ⟨_, _, rfl, same_tup k.sub h, hR _ _ W' g k (wk_tup h r2) q1⟩)
  | str x =>
    cases e1
    cases r with
    | str z _ h =>
      subst h
      exact .inr (.inr ⟨z, rfl, hR _ _ W' g k wk_str q1⟩)
  | _ => cases e1) hw)⟩

def forW (gw : GW) (wb : SW M) : List D → SW M
  | [], k => k.nx
  | d :: ds, k => fun ρ g => gw d ρ fun ρ' => wb { nx := forW gw wb ds k, rt := k.rt, bk := k.nx, ct := forW gw wb ds k } ρ' g
@[simp] def wFor (wi : IW M) (gw : GW) (wb : SW M) : SW M := fun k ρ g => wi ρ g fun ds g' => forW gw wb ds k ρ g'
theorem ds_for {tg iter : Expr} {body : List Stmt} {is : List Nat} {wi : IW M} {gw : GW} {wb : SW M} (hp : PassesOwn (model C.X.prog C.X.w) C.X.A C.X.env C.X.xe) (hc : C.X.calm = true) (hi : DI C tg iter wi) (hg : DG C is tg gw) (hb : DSs C body wb)
    (hs : ∀ x, foldedSetIterable iter C.X.env x = pure x := by intro _; rfl) : DS C (.For tg iter body [] pos) (wFor wi gw wb) := ⟨fun σ ρ W k E S l h => by
  refine tsOf_of (ps_for hp hc pi_tOf pg_tOf pss_tOf hs) (hi.run σ ρ W _ _ S (fun J ds W1 g1 k1 wk q1 => ?_) h)
  refine ⟨fun i m σ H => ∃ (ρ : DEnv) (W2 : Wd M), W2.H = H ∧ Sat C σ ρ W2 ∧ Gs W1 W2 ∧ m = ds.length - i ∧ forW gw wb (ds.drop i) k ρ W2.g, ⟨ds.length, ρ, W1, rfl, S.step g1 k1, Gs.refl _, rfl, q1⟩, ?_⟩
  rintro i m σ2 H2 ⟨ρ2, W2, rfl, S2, g2, rfl, q2⟩
  cases hd : ds[i]? with
  | none =>
    have e : ds.drop i = [] := List.drop_eq_nil_of_le (List.getElem?_eq_none_iff.mp hd)
    rw [e] at q2
    exact .inl ⟨wk.stop i W2 g2 S2.ok hd, l.nx σ2 ρ2 W2 (g1.s.trans g2) S2 q2⟩
  | some d =>
    obtain ⟨hlt, hd'⟩ := List.getElem?_eq_some_iff.mp hd
    have e : ds.drop i = d :: ds.drop (i + 1) := by rw [List.drop_eq_getElem_cons hlt, hd']
    rw [e] at q2
    obtain ⟨go, yld⟩ := wk.go i W2 d g2 S2.ok hd
    refine .inr ⟨go, fun σ H => ∃ (ρ : DEnv) (W3 : Wd M), W3.H = H ∧ Sat C σ ρ W3 ∧ Gs W1 W3 ∧ forW gw wb (ds.drop (i + 1)) k ρ W3.g, ?_, fun x H' y => ?_⟩
    · rintro σ' H' ⟨ρ3, W3, e3, S3, g3, q3⟩
      exact ⟨ds.length - (i + 1), by omega, ρ3, W3, e3, S3, g3, rfl, q3⟩
    · obtain ⟨W3, rfl, g3, k3, e3, r3⟩ := yld x H' y
      rw [← e3] at q2
      refine hg.run σ2 ρ2 W3 x d _ _ (S2.step g3 k3) r3 (fun σ4 ρ4 S4 _ _ q4 => ?_) q2
      have g13 : Gs W1 W3 := g2.trans g3.s
      have nx : ∀ σ' ρ' W', Gs W3 W' → Sat C σ' ρ' W' → forW gw wb (ds.drop (i + 1)) k ρ' W'.g → ∃ (ρ : DEnv) (W4 : Wd M), W4.H = W'.H ∧ Sat C σ' ρ W4 ∧ Gs W1 W4 ∧ forW gw wb (ds.drop (i + 1)) k ρ W4.g :=
        fun σ' ρ' W' g S' q => ⟨ρ', W', rfl, S', g13.trans g, q⟩
      exact hb.run σ4 ρ4 W3 { nx := forW gw wb (ds.drop (i + 1)) k, rt := k.rt, bk := k.nx, ct := forW gw wb (ds.drop (i + 1)) k } _ S4 ⟨nx, l.rt, fun σ' ρ' W' g S' q => l.nx σ' ρ' W' ((g1.s.trans g13).trans g) S' q, nx⟩ q4⟩

end
end DL
set_option Elab.async false
set_option linter.all false
set_option maxRecDepth 100000
set_option maxHeartbeats 1000000
namespace DL
open PySem L2
section
variable {M : Ghost} {C : Ct M} {W W1 W2 W' : Wd M} {σ : L2.St} {ρ : DEnv} {e : Expr} {es : List Expr} {we : EW M} {pos : Pos}

@[simp] def wipeD (ρ : DEnv) : List Nat → DEnv
  | [] => ρ
  | v :: vs => (wipeD ρ vs).set v .no
theorem Sat.setNo (S : Sat C σ ρ W) (i : Nat) : Sat C (σ.set i none) (ρ.set i .no) W := by
  refine ⟨S.ok, S.go, by rw [List.length_set, List.length_set, S.len], fun j t e => ?_, fun j l ds es p e1 e2 w1 w2 e3 e4 => ?_, S.gs⟩
  · by_cases hij : i = j
    · subst hij
      have hlt : i < ρ.length := by
        have := (List.getElem?_eq_some_iff.mp e).1
        rwa [List.length_set] at this
      rw [List.getElem?_set_self hlt] at e
      cases e
      exact ⟨none, by rw [List.getElem?_set_self (by rw [S.len]; exact hlt)], trivial⟩
    · rw [List.getElem?_set_ne hij] at e
      obtain ⟨o, h1, h2⟩ := S.sl j t e
      exact ⟨o, by rw [List.getElem?_set_ne hij]; exact h1, h2⟩
  · have nj : ∀ (j : Nat) d, (ρ.set i .no)[j]? = some d → d.isOwn = true → i ≠ j ∧ ρ[j]? = some d := fun j d e wd => by
      by_cases hij : i = j
      · subst hij
        have hlt : i < ρ.length := by
          have := (List.getElem?_eq_some_iff.mp e).1
          rwa [List.length_set] at this
        rw [List.getElem?_set_self hlt] at e
        cases e
        cases wd
      · rw [List.getElem?_set_ne hij] at e
        exact ⟨hij, e⟩
    obtain ⟨n1, e1'⟩ := nj j ds e1 w1
    obtain ⟨n2, e2'⟩ := nj l es e2 w2
    rw [List.getElem?_set_ne n1] at e3
    rw [List.getElem?_set_ne n2] at e4
    exact S.dis j l ds es p e1' e2' w1 w2 e3 e4
theorem Sat.wipe (S : Sat C σ ρ W) : ∀ vs : List Nat, Sat C (L2.wipe σ vs) (wipeD ρ vs) W
  | [] => S
  | v :: vs => (Sat.wipe S vs).setNo v
theorem wipe_in {σ : L2.St} {i : Nat} : ∀ {vs : List Nat}, i ∈ vs → (L2.wipe σ vs)[i]? = if i < σ.length then some none else none
  | [], h => by cases h
  | v :: vs, h => by
    unfold L2.wipe
    by_cases hi : v = i
    · subst hi
      by_cases hv : v < σ.length
      · rw [if_pos hv, List.getElem?_set_self (by rw [wipe_length]; exact hv)]
      · rw [if_neg hv, List.getElem?_eq_none (by rw [List.length_set, wipe_length]; omega)]
    · rw [List.getElem?_set_ne hi]
      exact wipe_in ((List.mem_cons.mp h).resolve_left fun z => hi z.symm)
theorem wipe_eq {σ σ' : L2.St} {vs : List Nat} (hl : σ'.length = σ.length) (h : ∀ j, j ∉ vs → σ'[j]? = σ[j]?) : L2.wipe σ' vs = L2.wipe σ vs := by
  refine List.ext_getElem? fun j => ?_
  by_cases hj : j ∈ vs
  · rw [wipe_in hj, wipe_in hj, hl]
  · rw [wipe_out hj, wipe_out hj, h j hj]
abbrev Ct.blk (C : Ct M) (s : Shared) (H : Hp) (scope : Scope) (cenv : Env) (fp : List Addr) : Ct M := ⟨C.X.blk s H scope cenv fp, C.W0, fun _ _ _ => False, C.B⟩
abbrev Ct.bk (C : Ct M) (s : Shared) (H : Hp) (scope : Scope) (cl : List (Str × Addr)) (Cc : Addr) (fp : List Addr) : Ct M := C.blk s H scope (compEnvC scope cl Cc C.X.env) fp
theorem Sat.blk (S : Sat C σ ρ W) {s : Shared} {H : Hp} {scope : Scope} {cenv : Env} {fp : List Addr} : Sat (C.blk s H scope cenv fp) σ ρ W := ⟨S.ok, S.go, S.len, S.sl, S.dis, S.gs⟩
def ttsOf (X : Cx) (ifs : List Expr) : TT := fun σ H Q => ∀ (pins : List (Addr × Obj)) (s : Shared), Inv X pins σ H s →
  wpAny (model X.prog X.w) X.A (forIn ifs true fun c r => if r = true then do let ok ← isTrue c X.env (eval c X.env); pure (ForInStep.yield ok) else pure (ForInStep.yield r)) (TP X pins σ Q) X.xe s
structure DTs (C : Ct M) (ifs : List Expr) (w : TW M) : Prop where
  run : ∀ (σ : L2.St) (ρ : DEnv) (W : Wd M) (Q : Bool → Hp → Prop) (q : Bool → M.G → Prop), Sat C σ ρ W → (∀ b W', Go W W' → Wok C.X.K W' → q b W'.g → Q b W'.H) → w ρ W.g q → ttsOf C.X ifs σ W.H Q
@[simp] def wYes : TW M := fun _ g q => q true g
theorem dts_nil : DTs C [] wYes := ⟨fun σ ρ W Q q S hQ hw pins s I => pts_nil.run pins s σ W.H Q I (hQ true W (Go.refl W) S.ok hw)⟩
def lcW (gw : GW) (wt : TW M) (we : EW M) (ρ : DEnv) : List D → M.G → (List D → M.G → Prop) → Prop
  | [], g, q => q [] g
  | d :: ds, g, q => gw d ρ fun ρ' => wt ρ' g fun b g1 => if b = true then we ρ' g1 fun y g2 => lcW gw wt we ρ ds g2 fun ys g3 => q (y :: ys) g3 else lcW gw wt we ρ ds g1 q
@[simp] def wLc (wi : IW M) (gw : GW) (wt : TW M) (we : EW M) (vs : List Nat) : NW M := fun ρ g q => wi ρ g fun ds g' => ds.length ≤ sizeLine ∧ lcW gw wt we (wipeD ρ vs) ds g' q
theorem lcW_mono {gw : GW} {wt : TW M} {ds : List D} {g : M.G} {q q' : List D → M.G → Prop} (h : lcW gw wt we ρ ds g q) (e : q = q') : lcW gw wt we ρ ds g q' := e ▸ h
section
variable {elt tg iter : Expr} {ifs : List Expr} {scope : Scope} {own : List (Str × Nat)} {wi : IW M} {gw : GW} {wt : TW M} {is : List Nat}
def teB (C : Ct M) (scope : Scope) (e : Expr) : TE := fun σ H Q => ∀ s H0 Cc cl fp, tOf (C.X.blk s H0 scope (compEnvC scope cl Cc C.X.env) fp) e σ H Q
def ttB (C : Ct M) (scope : Scope) (e : List Expr) : TT := fun σ H Q => ∀ s H0 Cc cl fp, ttsOf (C.X.blk s H0 scope (compEnvC scope cl Cc C.X.env) fp) e σ H Q
def tgB (C : Ct M) (scope : Scope) (e : Expr) : TG := fun v σ H Q => ∀ s H0 Cc cl fp, tgOf (C.X.blk s H0 scope (compEnvC scope cl Cc C.X.env) fp) e v σ H Q
structure DIg (C : Ct M) (ti : TI) (w : IW M) : Prop where
  run : ∀ (σ : L2.St) (ρ : DEnv) (W : Wd M) (R : It → Hp → Prop) (q : List D → M.G → Prop), Sat C σ ρ W → (∀ J ds W', Go W W' → Wok C.X.K W' → WK C.X.K W' J ds → q ds W'.g → R J W'.H) → w ρ W.g q → ti σ W.H R
theorem lc_run {ti : TI} (hi : DIg C ti wi) (hvs : ∀ j ∈ is, j ∈ own.map (·.2)) (hg : ∀ s H Cc cl fp, DG (C.bk s H scope cl Cc fp) is tg gw) (ht : ∀ s H Cc cl fp, DTs (C.bk s H scope cl Cc fp) ifs wt)
    (he : ∀ s H Cc cl fp, DE (C.bk s H scope cl Cc fp) elt we) {Q : VK} {q : List D → M.G → Prop} (S : Sat C σ ρ W)
    (hQ : ∀ p vs ds W', Go W W' → Wok C.X.K W' → W'.H p = some (.lst vs) → W'.F p = none → p ∉ W'.R → W.H p = none → RpA C.X.K W'.F W'.R vs ds → q ds W'.g → Q (.ref p) W'.H)
    (hw : wLc wi gw wt we (own.map (·.2)) ρ W.g q) : tLc ti (tgB C scope tg) (ttB C scope ifs) (teB C scope elt) (own.map (·.2)) σ W.H Q := by
  refine hi.run σ ρ W _ _ S (fun J ds W1 g1 k1 wk q1 P hP => ?_) hw
  obtain ⟨hz, q1⟩ := q1
  have hP0 : W.H P = none := by
    cases z : W.H P with
    | none => rfl
    | some o => exact absurd hP (g1.live P (by rw [z]; simp))
  refine ⟨fun i m H => ∃ (W2 : Wd M) (acc : List V) (as : List D), W2.H = H ∧ Go W1 W2 ∧ Wok C.X.K W2 ∧ H P = some (.lst acc) ∧ W2.F P = none ∧ P ∉ W2.R ∧ RpA C.X.K W2.F W2.R acc as ∧ as.length ≤ i ∧ m = ds.length - i ∧
      lcW gw wt we (wipeD ρ (own.map (·.2))) (ds.drop i) W2.g fun ys g' => q (as ++ ys) g',
    ⟨ds.length, W1.new P (.lst []), [], [], rfl, Go.new k1 hP, k1.new hP, upd_same, k1.noF hP, k1.noR hP, .nil, Nat.zero_le _, rfl, q1⟩, ?_⟩
  rintro i m H ⟨W2, acc, as, rfl, g2, k2, h1, h2, h3, r, hl, rfl, q2⟩
  cases hd : ds[i]? with
  | none =>
    have e : ds.drop i = [] := List.drop_eq_nil_of_le (List.getElem?_eq_none_iff.mp hd)
    rw [e] at q2
    have q3 : q (as ++ []) W2.g := q2
    rw [List.append_nil] at q3
    exact .inl ⟨wk.stop i W2 g2.s k2 hd, hQ P acc as W2 (g1.trans g2) k2 h1 h2 h3 hP0 r q3⟩
  | some d =>
    obtain ⟨hlt, hd'⟩ := List.getElem?_eq_some_iff.mp hd
    have e : ds.drop i = d :: ds.drop (i + 1) := by rw [List.drop_eq_getElem_cons hlt, hd']
    rw [e] at q2
    obtain ⟨go, yld⟩ := wk.go i W2 d g2.s k2 hd
    refine .inr ⟨go, fun H => ∃ (W2 : Wd M) (acc : List V) (as : List D), W2.H = H ∧ Go W1 W2 ∧ Wok C.X.K W2 ∧ H P = some (.lst acc) ∧ W2.F P = none ∧ P ∉ W2.R ∧ RpA C.X.K W2.F W2.R acc as ∧ as.length ≤ i + 1 ∧
      lcW gw wt we (wipeD ρ (own.map (·.2))) (ds.drop (i + 1)) W2.g fun ys g' => q (as ++ ys) g', ?_, fun x H' y => ?_⟩
    · rintro H' ⟨W3, a3, d3, b1, b2, b3, b4, b5, b6, b7, b8, b9⟩
      exact ⟨ds.length - (i + 1), by omega, W3, a3, d3, b1, b2, b3, b4, b5, b6, b7, b8, rfl, b9⟩
    · obtain ⟨W3, rfl, g3, k3, e3, r3⟩ := yld x H' y
      rw [← e3] at q2
      have Sw : Sat C (L2.wipe σ (own.map (·.2))) (wipeD ρ (own.map (·.2))) W3 := (S.step ((g1.trans g2).trans g3) k3).wipe _
      -- the new list stays as it is
      have stay : ∀ {W4 : Wd M}, Go W2 W4 → W4.H P = some (.lst acc) ∧ W4.F P = none ∧ P ∉ W4.R := fun {W4} g => by
        refine ⟨g.keep _ _ h1 h3, ?_, g.notR (by rw [h1]; simp) h3⟩
        cases z : W4.F P with
        | none => rfl
        | some o =>
          rcases g.young P (by rw [z]; simp) with a | a
          · exact absurd h2 a
          · rw [h1] at a; cases a
      intro s0 H0 Cc cl fp
      refine (hg s0 H0 Cc cl fp).run _ _ W3 x d _ _ Sw.blk r3 (fun σ4 ρ4 S4 l4 n4 q4 => ⟨?_, fun s1 H1 Cc1 cl1 fp1 => ?_⟩) q2
      · rw [wipe_eq (σ := L2.wipe σ (own.map (·.2))) l4 fun j hj => n4 j fun z => hj (hvs j z)]
        exact wipe_eq (wipe_length _ _) fun j hj => wipe_out hj
      · refine (ht s1 H1 Cc1 cl1 fp1).run σ4 ρ4 W3 _ _ ⟨S4.ok, S4.go, S4.len, S4.sl, S4.dis, S4.gs⟩ (fun b W5 g5 k5 q5 => ?_) q4
        cases b with
        | false =>
          obtain ⟨a1, a2, a3⟩ := stay (g3.trans g5)
          exact iteF ⟨W5, acc, as, rfl, (g2.trans g3).trans g5, k5, a1, a2, a3, r.step (g3.trans g5), by omega, q5⟩
        | true =>
          refine iteT fun s2 H2 Cc2 cl2 fp2 => ?_
          have S5 := S4.step g5 k5
          refine (he s2 H2 Cc2 cl2 fp2).run σ4 ρ4 W5 _ _ ⟨S5.ok, S5.go, S5.len, S5.sl, S5.dis, S5.gs⟩ (fun v dy W6 g6 k6 r6 q6 => ?_) q5
          obtain ⟨a1, a2, a3⟩ := stay ((g3.trans g5).trans g6)
          refine ⟨acc, a1, by rw [r.length]; omega, W6.put P (.lst (acc ++ [v])), acc ++ [v], as ++ [dy], rfl, Go.put (((g2.trans g3).trans g5).trans g6) hP, k6.put a2 a3, upd_same, a2, a3,
            (r.step ((g3.trans g5).trans g6)).append (.cons r6 .nil), by rw [List.length_append, List.length_singleton]; omega, ?_⟩
          refine lcW_mono q6 ?_
          funext ys g'
          rw [List.append_assoc]
          rfl
theorem dn_lc (hc : C.X.calm = true) (hN : C.X.N.Nodup) (hi : DI C tg iter wi) (ok : BlkOk C.X.N C.X.env.scope scope own) (hvs : ∀ j ∈ is, j ∈ own.map (·.2)) (hg : ∀ s H Cc cl fp, DG (C.bk s H scope cl Cc fp) is tg gw)
    (ht : ∀ s H Cc cl fp, DTs (C.bk s H scope cl Cc fp) ifs wt) (he : ∀ s H Cc cl fp, DE (C.bk s H scope cl Cc fp) elt we) (hs : ∀ x, foldedSetIterable iter C.X.env x = pure x := by intro _; rfl) :
    DN C (.ListComp elt [⟨tg, iter, ifs, 0⟩] scope pos) (wLc wi gw wt we (own.map (·.2))) := ⟨fun σ ρ W Q q S hQ hw =>
  tOf_of (pe_lc (wi := iOf C.X tg iter) (g := tgB C scope tg) (tt := ttB C scope ifs) (te := teB C scope elt) hc hN pi_tOf ok (fun s H Cc cl fp => ⟨fun pins s' σ H' v u Q I r h => h s H Cc cl fp pins s' u I r⟩)
    (fun s H Cc cl fp => ⟨fun pins s' σ H' Q I h => h s H Cc cl fp pins s' I⟩) (fun s H Cc cl fp => ⟨fun pins s' σ H' Q I h => h s H Cc cl fp pins s' I⟩) hs) (lc_run ⟨hi.run⟩ hvs hg ht he S hQ hw)⟩
/-- .. frozen at once -/
theorem ds_setLcI {i : Nat} {y : Str} {py spos : Pos} (hc : C.X.calm = true) (hN : C.X.N.Nodup) (hy : C.X.N[i]? = some y) (hyl : C.X.env.scope.names.lookup y = some .local)
    (hsw : swapsWith (.ListComp elt [⟨tg, iter, ifs, 0⟩] scope pos) (some (.Name y py)) spos.line C.X.env = pure true) (hi : DI C tg iter wi) (ok : BlkOk C.X.N C.X.env.scope scope own) (hvs : ∀ j ∈ is, j ∈ own.map (·.2)) (hg : ∀ s H Cc cl fp, DG (C.bk s H scope cl Cc fp) is tg gw)
    (ht : ∀ s H Cc cl fp, DTs (C.bk s H scope cl Cc fp) ifs wt) (he : ∀ s H Cc cl fp, DE (C.bk s H scope cl Cc fp) elt we) (hs : ∀ x, foldedSetIterable iter C.X.env x = pure x := by intro _; rfl) :
    DS C (.Assign [.Name y py] (.ListComp elt [⟨tg, iter, ifs, 0⟩] scope pos) spos) (wSet i (wI (wL (wLc wi gw wt we (own.map (·.2)))))) := ⟨fun σ ρ W k E S l h =>
  tsOf_of (ps_setLc (wi := iOf C.X tg iter) (g := tgB C scope tg) (tt := ttB C scope ifs) (te := teB C scope elt) hc hN hy hyl hsw pi_tOf ok (fun s H Cc cl fp => ⟨fun pins s' σ H' v u Q I r h => h s H Cc cl fp pins s' u I r⟩)
    (fun s H Cc cl fp => ⟨fun pins s' σ H' Q I h => h s H Cc cl fp pins s' I⟩) (fun s H Cc cl fp => ⟨fun pins s' σ H' Q I h => h s H Cc cl fp pins s' I⟩) hs)
    (lc_run ⟨hi.run⟩ hvs hg ht he S (fun p vs ds W' g k' h1 h2 h3 h4 r q => by
      have S2 := S.set (Go.freeze g h2 h4) (k'.freeze h1 h2 h3) (s := .im (.lst ds)) (v := .ref p) (show Rp C.X.K (upd W'.F p (.lst vs)) W'.R (.ref p) (.lst ds) from .lst upd_same (r.mono (same_new h2) fun _ _ z => z)) i
      exact l.nx _ _ (W'.freeze p (.lst vs)) (Go.s (Go.freeze g h2 h4)) S2 q) h)⟩
end

abbrev AW (M : Ghost) := DEnv → M.G → (List D → M.G → Prop) → Prop
def aOf (X : Cx) (es : List Expr) : TA := fun σ H Q => ∀ (pos : Pos) (pins : List (Addr × Obj)) (s : Shared), Inv X pins σ H s → wpAny (model X.prog X.w) X.A (spliced (backTo pos (starEach es X.env))) (AP X pins σ Q) X.xe s
theorem pa_tOf {X : Cx} {es : List Expr} : PA X es (aOf X es) := ⟨fun pos pins s _ _ _ I h => h pos pins s I⟩
theorem aOf_of {X : Cx} {es : List Expr} {t : TA} (h : PA X es t) {H : Hp} {Q : List V → Hp → Prop} (q : t σ H Q) : aOf X es σ H Q := fun pos pins s I => h.run pos pins s σ H Q I q
structure DA (C : Ct M) (es : List Expr) (w : AW M) : Prop where
  run : ∀ (σ : L2.St) (ρ : DEnv) (W : Wd M) (Q : List V → Hp → Prop) (q : List D → M.G → Prop), Sat C σ ρ W → (∀ vs ds W', Go W W' → Wok C.X.K W' → RpA C.X.K W'.F W'.R vs ds → q ds W'.g → Q vs W'.H) → w ρ W.g q → aOf C.X es σ W.H Q
structure DAP (C : Ct M) (es : List Expr) (w : AW M) : Prop where
  run : ∀ (σ : L2.St) (ρ : DEnv) (W : Wd M) (Q : List V → Hp → Prop) (q : List D → M.G → Prop), Sat C σ ρ W → (∀ vs ds W', Go W W' → Wok C.X.K W' → Paired (RdP C.X.K W') vs ds → q ds W'.g → Q vs W'.H) → w ρ W.g q → aOf C.X es σ W.H Q
@[simp] def wANil : AW M := fun _ g q => q [] g
@[simp] def wACons (w : EW M) (u : AW M) : AW M := fun ρ g q => w ρ g fun d g1 => u ρ g1 fun ds g2 => q (d :: ds) g2
variable {wa : AW M}
theorem da_nil : DA C [] wANil := ⟨fun σ ρ W Q q S hQ hw => aOf_of pa_nil (hQ [] [] W (Go.refl W) S.ok .nil hw)⟩
theorem da_cons (he : DE C e we) (hr : DA C es wa) (hs : starEach (e :: es) C.X.env = (false, eval e C.X.env) :: starEach es C.X.env := by rfl) : DA C (e :: es) (wACons we wa) := ⟨fun σ ρ W Q q S hQ hw =>
  aOf_of (pa_cons pe_tOf pa_tOf hs) (he.run σ ρ W _ _ S (fun v d W1 g1 k1 r1 q1 => hr.run σ ρ W1 _ _ (S.step g1 k1) (fun vs ds W2 g2 k2 r2 q2 => hQ (v :: vs) (d :: ds) W2 (g1.trans g2) k2 (.cons (r1.step g2) r2) q2) q1) hw)⟩
theorem dap_nil : DAP C [] wANil := ⟨fun σ ρ W Q q S hQ hw => aOf_of pa_nil (hQ [] [] W (Go.refl W) S.ok .nil hw)⟩
theorem dap_cons (he : DP C e we) (hr : DAP C es wa) (hs : starEach (e :: es) C.X.env = (false, eval e C.X.env) :: starEach es C.X.env := by rfl) : DAP C (e :: es) (wACons we wa) := ⟨fun σ ρ W Q q S hQ hw =>
  aOf_of (pa_cons pe_tOf pa_tOf hs) (he.run σ ρ W _ _ S (fun v d W1 g1 k1 r1 q1 => hr.run σ ρ W1 _ _ (S.step g1 k1) (fun vs ds W2 g2 k2 r2 q2 => hQ (v :: vs) (d :: ds) W2 (g1.trans g2) k2 (.cons (r1.step g2) r2) q2) q1) hw)⟩

@[simp] def wTup (wa : AW M) : EW M := fun ρ g q => wa ρ g fun ds g' => ds.length ≤ sizeLine ∧ q (.tup ds) g'
theorem de_tup {kk : Nat} (ha : DA C es wa) : DE C (.Tuple es kk pos) (wTup wa) := ⟨fun σ ρ W Q q S hQ hw =>
  tOf_of (pe_tup pa_tOf) (ha.run σ ρ W _ _ S (fun vs ds W1 g1 k1 r1 q1 => ⟨by rw [r1.length]; exact q1.1, fun p hp => hQ (.ref p) (.tup ds) (W1.lay p (.tup vs)) (g1.trans (Go.lay k1 hp)) (k1.lay hp) (.tup (.of upd_same) (r1.mono (same_new (k1.noF hp)) fun _ _ z => z)) q1.2⟩) hw)⟩
@[simp] def wLst (wa : AW M) : NW M := fun ρ g q => wa ρ g fun ds g' => ds.length ≤ sizeLine ∧ q ds g'
theorem dn_lst (ha : DA C es wa) : DN C (.List es pos) (wLst wa) := ⟨fun σ ρ W Q q S hQ hw =>
  tOf_of (pe_lst pa_tOf) (ha.run σ ρ W _ _ S (fun vs ds W1 g1 k1 r1 q1 => ⟨by rw [r1.length]; exact q1.1, fun p hp => hQ p vs ds (W1.new p (.lst vs)) (g1.trans (Go.new k1 hp)) (k1.new hp) upd_same (k1.noF hp) (k1.noR hp) (by
    cases z : W.H p with
    | none => rfl
    | some o => exact absurd hp (g1.live p (by rw [z]; simp))) r1 q1.2⟩) hw)⟩

abbrev DSp (M : Ghost) := List D → M.G → (D → M.G → Prop) → (Exn → M.G → Prop) → Prop
/-- an exception by its class's name and its fields -/
def ExR (K : PySem.W.Frag) (W : Wd M) (x : Exn) (cls : Value) (d : Option Addr) : Prop :=
  PySem.W.nsIn K mainGlobals x.cls = some (some cls) ∧ (∃ C : Addr, cls = .ref C) ∧ ((x.ns = [] ∧ x.ds = [] ∧ d = none) ∨ ∃ dd vs, d = some dd ∧ W.F dd = some (.xd (x.ns.zip vs)) ∧ x.ns.length = vs.length ∧ RpA K W.F W.R vs x.ds)
def EXk (K : PySem.W.Frag) (W0 : Wd M) (ex : Exn → M.G → Prop) : XK := fun cls d H => ∃ x W', W'.H = H ∧ Go W0 W' ∧ Wok K W' ∧ ExR K W' x cls d ∧ ex x W'.g
/-- nothing is handled, or an exception that stands frozen and whose context is None -/
def HotF (A : Around) (F : Hp) : Prop := A.handled = none ∨ ∃ (a : Addr) (oe : Obj) (fv : Array Value), A.handled = some (.ref a) ∧ F a = some (.frz oe exU) ∧ oe.data = .fields fv ∧ fv[2]? = some .none
theorem HotF.mono {A : Around} {F F' : Hp} (h : HotF A F) (s : Same F F') : HotF A F' := by
  rcases h with h | ⟨a, oe, fv, h1, h2, h3, h4⟩
  · exact .inl h
  · exact .inr ⟨a, oe, fv, h1, s a _ h2, h3, h4⟩
def liftSp (K : PySem.W.Frag) (mg : Str → Option Value) (n : Nat) (sp : DSp M) : Sp := fun vs H Q E => ∃ (W : Wd M) (ds : List D) (q : D → M.G → Prop) (ex : Exn → M.G → Prop), W.H = H ∧ Wok K W ∧ RpA K W.F W.R vs ds ∧ ds.length = n ∧ sp ds W.g q ex ∧
  (∀ v d W', Go W W' → Wok K W' → Rp K W'.F W'.R v d → q d W'.g → Q v W'.H) ∧ ∀ cls d H', EXk K W ex cls d H' → E cls d H'
def liftSpH (K : PySem.W.Frag) (mg : Str → Option Value) (n : Nat) (sp : DSp M) (A : Around) : Sp := fun vs H Q E => ∃ (W : Wd M) (ds : List D) (q : D → M.G → Prop) (ex : Exn → M.G → Prop), W.H = H ∧ Wok K W ∧ RpA K W.F W.R vs ds ∧ ds.length = n ∧ sp ds W.g q ex ∧
  ((∀ v d W', Go W W' → Wok K W' → Rp K W'.F W'.R v d → q d W'.g → Q v W'.H) ∧ ∀ cls d H', EXk K W ex cls d H' → E cls d H') ∧ HotF A W.F
/-- what leaves the code is what is wished of exceptions, at the slots as they stand -/
def EXs (C : Ct M) (σ : L2.St) : XK := fun cls d H => ∃ x ρ W', W'.H = H ∧ Sat C σ ρ W' ∧ ExR C.X.K W' x cls d ∧ C.EX x ρ W'.g
def TakesD (C : Ct M) : Prop := L2N.Takes C.X fun cls d σ H => EXs C σ cls d H
abbrev xno : Exn → DEnv → M.G → Prop := fun _ _ _ => False
abbrev xk (ex : Exn → M.G → Prop) : Exn → DEnv → M.G → Prop := fun x _ g => ex x g
theorem takesD_blk {s : Shared} {H : Hp} {scope : Scope} {cenv : Env} {fp : List Addr} : TakesD (C.blk s H scope cenv fp) := fun u s' x => by
  obtain ⟨_, _, _, _, _, _, _, _, _, _, _, _, _, _, _, _, z⟩ := x
  obtain ⟨_, _, _, _, _, _, w⟩ := z
  exact w.elim
theorem ExR.step {K : PySem.W.Frag} {x : Exn} {cls : Value} {d : Option Addr} (h : ExR K W x cls d) (g : Go W W1) : ExR K W1 x cls d := by
  obtain ⟨h1, h2, h3⟩ := h
  refine ⟨h1, h2, ?_⟩
  rcases h3 with h3 | ⟨dd, vs, e1, e2, e3, e4⟩
  · exact .inl h3
  · exact .inr ⟨dd, vs, e1, g.sub _ _ e2, e3, e4.step g⟩
/-- a call's exception is the caller's -/
theorem exs_of {EX : Exn → M.G → Prop} {cls : Value} {d : Option Addr} {H : Hp} (S : Sat C σ ρ W) (hx : ∀ x g, EX x g → C.EX x ρ g) (h : EXk C.X.K W EX cls d H) : EXs C σ cls d H := by
  obtain ⟨x, W', h1, h2, h3, h4, h5⟩ := h
  exact ⟨x, ρ, W', h1, S.step h2 h3, h4, hx _ _ h5⟩
@[simp] def startD (N : List Str) (ds : List D) : DEnv := ds.map .im ++ List.replicate (N.length - ds.length) .no
theorem sat_start {N : List Str} {vs : List V} {ds : List D} (ok : Wok C.X.K W) (h0 : C.W0 = W) (hB : C.B = W) (r : RpA C.X.K W.F W.R vs ds) : Sat C (L2.start N vs) (startD N ds) W := by
  have hg : Gs C.B W := by rw [hB]; exact Gs.refl _
  subst h0
  refine ⟨ok, Go.refl _, ?_, fun i s e => ?_, fun i j s1 s2 p e1 e2 w1 w2 e3 e4 => ?_, hg⟩
  · unfold L2.start startD
    rw [List.length_append, List.length_append, List.length_map, List.length_map, List.length_replicate, List.length_replicate, r.length]
  · unfold startD at e
    by_cases hi : i < ds.length
    · rw [List.getElem?_append_left (by rw [List.length_map]; exact hi), List.getElem?_map] at e
      cases hd : ds[i]? with
      | none => rw [hd] at e; cases e
      | some d =>
        rw [hd] at e
        cases e
        obtain ⟨v, h1, h2⟩ := r.get' hd
        refine ⟨some v, ?_, v, rfl, h2⟩
        unfold L2.start
        rw [List.getElem?_append_left (by rw [List.length_map, r.length]; exact hi), List.getElem?_map, h1]
        rfl
    · rw [List.getElem?_append_right (by rw [List.length_map]; omega), List.length_map] at e
      obtain ⟨hlt, e'⟩ := List.getElem?_eq_some_iff.mp e
      rw [List.getElem_replicate] at e'
      subst e'
      rw [List.length_replicate] at hlt
      refine ⟨none, ?_, trivial⟩
      unfold L2.start
      rw [List.getElem?_append_right (by rw [List.length_map, r.length]; omega), List.length_map, r.length, List.getElem?_replicate, if_pos hlt]
  · exfalso
    unfold startD at e1
    by_cases hi : i < ds.length
    · rw [List.getElem?_append_left (by rw [List.length_map]; exact hi), List.getElem?_map] at e1
      cases hd : ds[i]? with
      | none => rw [hd] at e1; cases e1
      | some d => rw [hd] at e1; cases e1; cases w1
    · rw [List.getElem?_append_right (by rw [List.length_map]; omega), List.length_map] at e1
      obtain ⟨hlt, e'⟩ := List.getElem?_eq_some_iff.mp e1
      rw [List.getElem_replicate] at e'
      subst e'
      cases w1
end
end DL
set_option Elab.async false
set_option linter.all false
set_option maxRecDepth 100000
set_option maxHeartbeats 1000000
namespace DL
open PySem L2
/-- as the layer's promise of a def, under no guard -/
structure FnG (P : Program) (w : World) (K : PySem.W.Frag) (mg : Str → Option Value) (base : Heap) (k : Nat) (f : Addr) (fd : FuncData) (ps : List Str) (sp : Sp) : Prop where
  len : ∀ xs H Q E, sp xs H Q E → xs.length = ps.length
  run : ∀ (A : Around) (fr : List Env) (s : Shared) (H : Hp) (as : Args) (us : List Value) (xs : List V) (Q : VK) (E : XK), Room k A → A.guards = some [] →
    Env0 P w K mg base A fr s H → BindsTo s fd as (ps.zip us) → Vals xs us → sp xs H Q E → codeAny (model P w) A (.call (.ref f) as) (CR (L2N.CX P w) fr P w H s Q E) s
section
variable {P : Program} {w : World} {K : PySem.W.Frag} {mg : Str → Option Value} {base : Heap}
theorem FnG.mono {j k : Nat} {f : Addr} {fd : FuncData} {ps : List Str} {sp : Sp} (F : FnG P w K mg base j f fd ps sp) (h : j ≤ k) : FnG P w K mg base k f fd ps sp :=
  ⟨F.len, fun A fr s H as us xs Q E room => F.run A fr s H as us xs Q E (room.mono h)⟩
theorem fng_of {x qual : Str} {st : Stmt} {f : Addr} {fd : FuncData} {N ps : List Str} {k : Nat} {sp : Sp} (F : Fun K x qual st f fd) (Sc : FnScope N ps (defScope st)) (len : ∀ xs H Q E, sp xs H Q E → xs.length = ps.length)
    (hb : ∀ (cdv : Value) (A : Around) (fr : List Env) (s : Shared) (H : Hp) (xs : List V) (Q : VK) (E : XK), Room k (A.deeper (PyProof.Rows.envOfC qual (defScope st) s.heap.objs.size f cdv)) → A.guards = some [] → sp xs H Q E →
      ∃ t, PSs (cxOf (L2N.CX P w) P w K mg base N qual (defScope st) f cdv A fr s H E) (defBody st) t ∧ t { nx := fun _ H' => Q .non H', rt := Q } (L2.start N xs) H) :
    FnG P w K mg base (k + 1) f fd ps sp := by
  obtain ⟨oc, od, kV, doc, pm, an, cdv, ct, osl, rfl, lk, hcd⟩ := F.ex
  refine ⟨len, fun A fr s H as us xs Q E room gd e0 bd rel want => ?_⟩
  have hlen := len _ _ _ _ want
  have kin : K.In s.heap := e0.mod.kin.keeps fun b o e => (e0.bs b o e).1
  have hk : ((ps.zip us).all fun y => (defScope st).names.lookup y.1 == some .local || (defScope st).names.lookup y.1 == some .cell) = true := by
    rw [List.all_eq_true]
    rintro ⟨n, v⟩ hm
    rcases Sc.par n (List.of_mem_zip hm).1 with q | q
    · rw [q]; rfl
    · rw [q]; rfl
  refine Att.call_fn kin (e0.mod.nolimit.keeps fun b o e => (e0.bs b o e).1) lk hcd room.depth bd hk (fun s1 inC => ?_) Sc.co Sc.gen Sc.kind
  obtain ⟨t, ht, hq⟩ := hb cdv A fr s H xs Q E (room.deeper _) gd want
  have inv := inv_start (CX := L2N.CX P w) (N := N) (E := E) Sc room.hd e0 hlen rel inC
  refine wpAny_mono (ht.run [] s1 _ H _ inv hq) (fun fl s2 hs => ?_) fun e s2 hs => hs
  have back : ∀ {σ2 : L2.St} {H2 : Hp} {v : V} {u : Value}, Inv (cxOf (L2N.CX P w) P w K mg base N qual (defScope st) f cdv A fr s H E) [] σ2 H2 s2 → RelV v u → Q v H2 → CE fr P w H s Q u s2 :=
    fun {σ2 H2 v u} J rv q => ⟨v, H2, J.os, J.bare, J.base, J.hok, rv, q⟩
  match fl, hs with
  | .ret u, ⟨v, σ2, H2, J, rv, q⟩ => exact back J rv q
  | .next, ⟨σ2, H2, J, q⟩ => exact back (v := .non) (u := .none) J rfl q
  | .brk, ⟨_, _, _, q⟩ => exact q.elim
  | .cont, ⟨_, _, _, q⟩ => exact q.elim
end
section
variable {X : Cx} {k : Nat} {f : Addr} {fd : FuncData} {ps : List Str} {sp : Sp} {E : L2.St → XK} {x : Str} {p pos : Pos} {e : Expr} {es : List Expr} {t : TA}
theorem run_fng {pins : List (Addr × Obj)} {σ : L2.St} {H : Hp} {s : Shared} {Q : VK} {us : List Value} {xs : List V} (F : FnG X.prog X.w X.K X.mg X.base k f fd ps sp) (gd : X.A.guards = some []) (room : Room k X.A) (hb : Binds X.K fd ps [])
    (hx : ∀ σ, PassesAt (L2N.CX X.prog X.w) X σ (E σ)) (I : Inv X pins σ H s) (rel : Vals xs us) (want : sp xs H Q (E σ)) : wpAny (model X.prog X.w) X.A (call (.ref f) us) (EP X pins σ Q) X.xe s := by
  have hl : (us ++ []).length = ps.length := by rw [List.append_nil, ← rel.length]; exact F.len _ _ _ _ want
  have bd := hb s us I.kIn hl
  rw [List.append_nil] at bd
  refine wpAny_call (codeAny_mono (F.run X.A X.stack s H ⟨us, []⟩ us xs Q (E σ) room gd I.env0 bd rel want) fun r s2 hq => ?_)
  match r, hq with
  | .error er, hq => exact hx σ pins H s er s2 I hq
  | .ok (.ret u), hq => exact I.after hq
  | .ok .next, hq => exact False.elim hq
  | .ok .brk, hq => exact False.elim hq
  | .ok .cont, hq => exact False.elim hq
def tCallG (sp : Sp) (E : L2.St → XK) (t : TA) : TE := fun σ H Q => t σ H fun xs H1 => sp xs H1 Q (E σ)
theorem pe_callG (F : FnG X.prog X.w X.K X.mg X.base k f fd ps sp) (gd : X.A.guards = some []) (room : Room k X.A) (hg : Gl X x) (hm : X.mg x = some (.ref f)) (hk : PySem.W.keepIn X.K (.ref f) = true) (hb : Binds X.K fd ps []) (hx : ∀ σ, PassesAt (L2N.CX X.prog X.w) X σ (E σ))
    (ha : PA X (e :: es) t) (hdb : (x == ("__debug__" : Str)) = false := by decide) (he : starEach (e :: es) X.env = (false, eval e X.env) :: starEach es X.env := by rfl) (hpl : (backTo pos (starEach es X.env)).any (·.1) = false := by rfl) :
    PE X (.Call (.Name x p) (e :: es) [] pos) (tCallG sp E t) := ⟨fun pins s σ H Q I h =>
  wpAny_Call_Name_kw (ld_glob I hg hm (PySem.W.callWith_K (h₀ := X.base) I.ok.mod.kin hk (thn (ha.run pos pins s σ H _ I h) fun us s1 ⟨xs, H1, I1, rel, want⟩ => ⟨I1.kIn, run_fng F gd room hb hx I1 rel want⟩) he hpl) hdb)⟩
end
theorem _root_.L2H.RoomH.units {k : Nat} {A : Around} (r : L2H.RoomH k A) : A.units + 64 < cLine := by have := r.un; omega

open L2H in
structure FnQ (P : Program) (w : World) (K : PySem.W.Frag) (mg : Str → Option Value) (base : Heap) (k : Nat) (f : Addr) (fd : FuncData) (ps : List Str) (sp : Around → Sp) : Prop where
  len : ∀ A xs H Q E, sp A xs H Q E → xs.length = ps.length
  run : ∀ (A : Around) (fr : List Env) (s : Shared) (H : Hp) (as : Args) (us : List Value) (xs : List V) (Q : VK) (E : XK), RoomH k A → A.guards = some [] →
    Env0 P w K mg base A fr s H → BindsTo s fd as (ps.zip us) → Vals xs us → sp A xs H Q E → codeAny (model P w) A (.call (.ref f) as) (CR (L2N.CX P w) fr P w H s Q E) s
section
open L2H
variable {P : Program} {w : World} {K : PySem.W.Frag} {mg : Str → Option Value} {base : Heap}
theorem FnQ.g {k : Nat} {f : Addr} {fd : FuncData} {ps : List Str} {sp : Around → Sp} {sp' : Sp} (F : FnQ P w K mg base k f fd ps sp) (hl : ∀ xs H Q E, sp' xs H Q E → xs.length = ps.length) (h : ∀ A xs H Q E, A.handled = none → sp' xs H Q E → sp A xs H Q E) : FnG P w K mg base k f fd ps sp' :=
  ⟨hl, fun A fr s H as us xs Q E room gd e0 bd rel want => F.run A fr s H as us xs Q E (roomH_of room) gd e0 bd rel (h A xs H Q E room.hd want)⟩
end
section
open L2H
variable {X : Cx} {k : Nat} {f : Addr} {fd : FuncData} {ps : List Str} {sp : Around → Sp} {E : L2.St → XK} {x : Str} {p pos : Pos} {e : Expr} {es : List Expr} {t : TA}
end
end DL
set_option Elab.async false
set_option linter.all false
set_option maxRecDepth 100000
set_option maxHeartbeats 1000000
namespace DL
open PySem L2
def S (x : List Nat) : Str := ⟨x.toArray⟩
theorem S_list (x : List Nat) : (S x).cps.toList = x := by simp [S]
theorem S_of (z : Str) : S z.cps.toList = z := by simp [S]
theorem str_len (z : Str) : z.length = z.cps.toList.length := by simp [Str.length]
theorem str_app (a b : Str) : (a ++ b).cps.toList = a.cps.toList ++ b.cps.toList := PySem.W.KT.app_list a b
section
variable {M : Ghost} {C : Ct M} {W W1 W2 W' : Wd M} {σ : L2.St} {ρ : DEnv} {e : Expr} {es : List Expr} {we : EW M} {pos : Pos}
theorem rp_strS {K : PySem.W.Frag} {F : Hp} {R : List Addr} (z : Str) {x : List Nat} (h : z.cps.toList = x) : Rp K F R (.str z) (.str x) := .str z _ h

def oAdd : D → D → (D → Prop) → Prop
  | .int i, .int j, q => q (.int (i + j))
  | .int i, .bl k, q => q (.int (i + PyProof.Rows.b2i k))
  | .str x, .str y, q => x.length + y.length ≤ sizeLine ∧ q (.str (x ++ y))
  | .tup x, .tup y, q => x.length + y.length ≤ sizeLine ∧ q (.tup (x ++ y))
  | _, _, _ => False
theorem opd_add : OpD C (binaryOp .Add) oAdd := by
  refine ⟨_, ((op_add.or op_add_ib).or op_add_str).or op_catA, fun W x y d e Q q k r1 r2 hQ h => ?_⟩
  cases d with
  | int i =>
    cases e with
    | int j => exact .inl (.inl (.inl ⟨i, j, r1.int_inv, r2.int_inv, hQ _ _ W (Go.refl W) k rfl (.int _) h⟩))
    | bl b => exact .inl (.inl (.inr ⟨i, b, r1.int_inv, r2.bl_inv, hQ _ _ W (Go.refl W) k rfl (.int _) h⟩))
    | _ => exact h.elim
  | str a =>
    cases e with
    | str b =>
      obtain ⟨z, rfl, rfl⟩ := r1.str_inv
      obtain ⟨z2, rfl, rfl⟩ := r2.str_inv
      exact .inl (.inr ⟨z, z2, rfl, rfl, by rw [str_len, str_len]; exact h.1, hQ _ _ W (Go.refl W) k rfl (rp_strS _ (str_app z z2)) h.2⟩)
    | _ => exact h.elim
  | tup a =>
    cases e with
    | tup b =>
      obtain ⟨p, vs, rfl, hs, ra⟩ := r1.tup_inv
      obtain ⟨p2, vs2, rfl, hs2, rb⟩ := r2.tup_inv
      refine .inr ⟨p, p2, vs, vs2, rfl, rfl, same_tup k.sub hs, same_tup k.sub hs2, by rw [ra.length, rb.length]; exact h.1, fun e => ?_, fun _ e => ?_, fun _ _ l hl => ?_⟩
      · subst e
        cases ra
        exact hQ _ _ W (Go.refl W) k rfl (.tup hs2 rb) h.2
      · subst e
        cases rb
        have hq := h.2
        rw [List.append_nil] at hq
        exact hQ _ _ W (Go.refl W) k rfl (.tup hs ra) hq
      · exact hQ _ _ (W.lay l (.tup (vs ++ vs2))) (Go.lay k hl) (k.lay hl) rfl (.tup (.of upd_same) ((ra.append rb).mono (same_new (k.noF hl)) fun _ _ z => z)) h.2
    | _ => exact h.elim
  | _ => exact h.elim
def oCat : D → D → (List D → Prop) → Prop
  | .lst x, .lst y, q => x.length + y.length ≤ sizeLine ∧ q (x ++ y)
  | _, _, _ => False
theorem opn_cat : OpN C (binaryOp .Add) oCat := by
  refine ⟨_, op_cat, fun W x y d e Q q k r1 r2 hQ h => ?_⟩
  cases d with
  | lst a =>
    cases e with
    | lst b =>
      obtain ⟨p, vs, rfl, hp, np, ra⟩ := r1.lst_inv k
      obtain ⟨p2, vs2, rfl, hp2, np2, rb⟩ := r2.lst_inv k
      exact ⟨p, p2, vs, vs2, rfl, rfl, hp, hp2, by rw [ra.length, rb.length]; exact h.1, fun l hl => hQ l _ _ (W.new l (.lst (vs ++ vs2))) (Go.new k hl) (k.new hl) rfl upd_same (k.noF hl) (k.noR hl) hl (ra.append rb) h.2⟩
    | _ => exact h.elim
  | _ => exact h.elim
def oSub : D → D → (D → Prop) → Prop
  | .int i, .int j, q => q (.int (i - j))
  | _, _, _ => False
theorem opd_sub : OpD C (binaryOp .Sub) oSub := by
  refine ⟨_, op_sub, fun W x y d e Q q k r1 r2 hQ h => ?_⟩
  cases d with
  | int i =>
    cases e with
    | int j => exact ⟨i, j, r1.int_inv, r2.int_inv, hQ _ _ W (Go.refl W) k rfl (.int _) h⟩
    | _ => exact h.elim
  | _ => exact h.elim
/-- a text times a number -/
theorem op_rep_str {X : Cx} : OpR X (binaryOp .Mult) (fun x y H Q => ∃ z k, x = .str z ∧ y = .int k ∧ 0 ≤ k ∧ z.length * k.toNat ≤ sizeLine ∧ k ≤ 2 ^ 32 ∧ Q (.str (S (List.replicate k.toNat z.cps.toList).flatten)) H) := by
  intro pins s σ H x y v u Q I rx ry h
  obtain ⟨z, k, rfl, rfl, h0, hz, hk, q⟩ := h
  obtain ⟨t, rfl⟩ := rx
  obtain ⟨t', rfl⟩ := ry
  have e63 : (2 : Int) ^ 63 = 9223372036854775808 := by decide
  have e32 : (2 : Int) ^ 32 = 4294967296 := by decide
  refine PySem.P.mul_str ?_ (fun h1 h2 => ?_) (fun h1 h2 => ?_) ?_
  · rw [decide_eq_false (by omega), decide_eq_false (by omega)]; rfl
  · have h4 : (z.length : Int) ≤ 16777216 := by
      have : z.length * 1 ≤ z.length * k.toNat := Nat.mul_le_mul_left _ (by omega)
      rw [sizeLine_eq] at hz
      omega
    have h5 : (16777216 : Int) ≤ (2 ^ 63 - 1) / k := by
      refine Int.le_ediv_of_mul_le (by omega) ?_
      have : 16777216 * k ≤ 16777216 * 4294967296 := Int.mul_le_mul_of_nonneg_left (by omega) (by omega)
      omega
    omega
  · unfold Builtin.Str.tooLong
    exact decide_eq_false (by omega)
  · by_cases h1 : k < 1
    · rw [if_pos h1]
      have : k = 0 := by omega
      subst this
      exact ⟨by decide, .str _, H, I.tok _, ⟨_, rfl⟩, q⟩
    · rw [if_neg h1]
      by_cases h2 : (k == 1 || z.length == 0) = true
      · rw [if_pos h2]
        have e : S (List.replicate k.toNat z.cps.toList).flatten = z := by
          rcases Bool.or_eq_true_iff.mp h2 with h3 | h3
          · have : k = 1 := by simpa using h3
            subst this
            simp [S]
          · have : z.cps = #[] := by simpa [Str.length] using h3
            obtain ⟨c⟩ := z
            simp at this
            subst this
            simp [S]
        rw [e] at q
        exact ⟨.str z, H, I, ⟨t, rfl⟩, q⟩
      · rw [if_neg h2]
        have e : (⟨(List.replicate k.toNat z.cps).foldl (· ++ ·) #[]⟩ : Str) = S (List.replicate k.toNat z.cps.toList).flatten := by
          have f : ∀ (n : Nat) (acc : Array Nat), ((List.replicate n z.cps).foldl (· ++ ·) acc).toList = acc.toList ++ (List.replicate n z.cps.toList).flatten := fun n => by
            induction n with
            | zero => intro acc; simp
            | succ n ih => intro acc; rw [List.replicate_succ, List.foldl_cons, ih]; simp [List.replicate_succ]
          unfold S
          congr 1
          apply Array.toList_inj.mp
          rw [f]
          simp
        refine ⟨?_, .str _, H, I.tok _, ⟨_, by rw [e]⟩, q⟩
        rw [e, str_len, S_list, PyProof.Rows.lm_len_rep_flat, ← str_len, Nat.mul_comm]
        exact hz

def oMul : D → D → (D → Prop) → Prop
  | .int i, .int j, q => CMul i j ∧ q (.int (i * j))
  | .str x, .int j, q => 0 ≤ j ∧ x.length * j.toNat ≤ sizeLine ∧ j ≤ 2 ^ 32 ∧ q (.str (List.replicate j.toNat x).flatten)
  | _, _, _ => False
theorem opd_mul : OpD C (binaryOp .Mult) oMul := by
  refine ⟨_, op_mul.or op_rep_str, fun W x y d e Q q k r1 r2 hQ h => ?_⟩
  cases d with
  | int i =>
    cases e with
    | int j => exact .inl ⟨i, j, r1.int_inv, r2.int_inv, h.1, hQ _ _ W (Go.refl W) k rfl (.int _) h.2⟩
    | _ => exact h.elim
  | str a =>
    cases e with
    | int j =>
      obtain ⟨z, rfl, rfl⟩ := r1.str_inv
      exact .inr ⟨z, j, rfl, r2.int_inv, h.1, by rw [str_len]; exact h.2.1, h.2.2.1, hQ _ _ W (Go.refl W) k rfl (rp_strS _ (S_list _)) h.2.2.2⟩
    | _ => exact h.elim
  | _ => exact h.elim
def oRep : D → D → (List D → Prop) → Prop
  | .lst x, .int j, q => -(2 ^ 63) ≤ j ∧ j < 2 ^ 63 ∧ x.length * j.toNat ≤ sizeLine ∧ q (List.replicate j.toNat x).flatten
  | _, _, _ => False
theorem opn_rep : OpN C (binaryOp .Mult) oRep := by
  refine ⟨_, op_rep, fun W x y d e Q q k r1 r2 hQ h => ?_⟩
  cases d with
  | lst a =>
    cases e with
    | int j =>
      obtain ⟨p, vs, rfl, hp, np, ra⟩ := r1.lst_inv k
      exact ⟨p, j, vs, rfl, r2.int_inv, hp, h.1, h.2.1, by rw [ra.length]; exact h.2.2.1, fun l hl => hQ l _ _ (W.new l (.lst _)) (Go.new k hl) (k.new hl) rfl upd_same (k.noF hl) (k.noR hl) hl (ra.flat _) h.2.2.2⟩
    | _ => exact h.elim
  | _ => exact h.elim
def oDiv : D → D → (D → Prop) → Prop := fun d e q => match d, e with | .int i, .int j => CDiv i j ∧ q (.int (i / j)) | _, _ => False
def oMod : D → D → (D → Prop) → Prop := fun d e q => match d, e with | .int i, .int j => 0 < j ∧ q (.int (i % j)) | _, _ => False
def oPow : D → D → (D → Prop) → Prop := fun d e q => match d, e with | .int i, .int j => CPow i j ∧ q (.int (i ^ j.toNat)) | _, _ => False
def asI (d : D) (q : Int → Prop) : Prop := match d with
  | .int i => q i
  | _ => False
@[simp] def wNeg (w : EW M) : EW M := fun ρ g q => w ρ g fun d g' => asI d fun i => q (.int (-i)) g'
theorem de_neg {a : Expr} {wa : EW M} (ha : DE C a wa) : DE C (.UnaryOp .USub a pos) (wNeg wa) := ⟨fun σ ρ W Q q S hQ hw => tOf_of (pe_un un_neg pe_tOf) (ha.run σ ρ W _ _ S (fun v d W' g k r q1 => by
  cases d with
  | int i => exact ⟨i, by cases r; rfl, hQ _ _ W' g k (.int _) q1⟩
  | _ => exact q1.elim) hw)⟩

def oLt : D → D → (D → Prop) → Prop
  | .int i, .int j, q => q (.bl (decide (i < j)))
  | .str x, .str y, q => q (.bl (decide (x < y)))
  | _, _, _ => False
def oLe : D → D → (D → Prop) → Prop
  | .int i, .int j, q => q (.bl (decide (i ≤ j)))
  | .str x, .str y, q => q (.bl (!decide (y < x)))
  | _, _, _ => False
def oGt : D → D → (D → Prop) → Prop
  | .int i, .int j, q => q (.bl (decide (j < i)))
  | .str x, .str y, q => q (.bl (decide (y < x)))
  | _, _, _ => False
def oGe : D → D → (D → Prop) → Prop
  | .int i, .int j, q => q (.bl (decide (j ≤ i)))
  | .str x, .str y, q => q (.bl (!decide (x < y)))
  | _, _, _ => False
theorem opd_is {f : Value → Value → Sem Value} {gi : Int → Int → Bool} {gs : List Nat → List Nat → Bool} (h1 : OpR C.X f (rI0 fun i j => .bl (gi i j)))
    (h2 : OpR C.X f (fun x y H Q => ∃ i j, x = .str i ∧ y = .str j ∧ Q (.bl (gs i.cps.toList j.cps.toList)) H)) :
    OpD C f (fun d e q => match d, e with | .int i, .int j => q (.bl (gi i j)) | .str x, .str y => q (.bl (gs x y)) | _, _ => False) := by
  refine ⟨_, h1.or h2, fun W x y d e Q q k r1 r2 hQ h => ?_⟩
  cases d with
  | int i =>
    cases e with
    | int j => exact .inl ⟨i, j, r1.int_inv, r2.int_inv, hQ _ _ W (Go.refl W) k rfl (.bl _) h⟩
    | _ => exact h.elim
  | str a =>
    cases e with
    | str b =>
      obtain ⟨z, rfl, rfl⟩ := r1.str_inv
      obtain ⟨z2, rfl, rfl⟩ := r2.str_inv
      exact .inr ⟨z, z2, rfl, rfl, hQ _ _ W (Go.refl W) k rfl (.bl _) h⟩
    | _ => exact h.elim
  | _ => exact h.elim
theorem OpD.of_eq {f : Value → Value → Sem Value} {r r' : D → D → (D → Prop) → Prop} (h : OpD C f r) (e : ∀ x y q, r' x y q → r x y q) : OpD C f r' := by
  obtain ⟨rr, h1, h2⟩ := h.run
  exact ⟨rr, h1, fun W x y d e' Q q k r1 r2 hQ hr => h2 W x y d e' Q q k r1 r2 hQ (e _ _ _ hr)⟩
theorem opd_lt : OpD C (compareOp .Lt) oLt := (opd_is (gi := fun i j => decide (i < j)) (gs := fun x y => decide (x < y)) op_lt op_lt_str).of_eq fun x y q h => by cases x <;> cases y <;> exact h
theorem opd_gt : OpD C (compareOp .Gt) oGt := (opd_is (gi := fun i j => decide (j < i)) (gs := fun x y => decide (y < x)) op_gt op_gt_str).of_eq fun x y q h => by cases x <;> cases y <;> exact h
mutual
def py : D → PyData
  | .non => .none
  | .bl b => .bool b
  | .int i => .int i
  | .str x => .str (S x)
  | .lst xs => .list (pyA xs)
  | .tup xs => .tuple (pyA xs)
  | .dic kvs => .dict (pyK kvs)
  | .ob _ => .none
  | .exn _ _ _ => .none
  | .tx _ => .none
  | .cl _ => .none
def pyA : List D → List PyData
  | [] => []
  | d :: ds => py d :: pyA ds
def pyK : List (Key × D) → List (PyData × PyData)
  | [] => []
  | (k, d) :: r => ((match k with | .inl i => .int i | .inr x => .str x), py d) :: pyK r
end
mutual
def pln : D → Bool
  | .lst xs => plnA xs
  | .tup xs => plnA xs
  | .dic kvs => plnK kvs
  | .ob _ => false
  | .exn _ _ _ => false
  | .tx _ => false
  | .cl _ => false
  | .non => true
  | .bl _ => true
  | .int _ => true
  | .str _ => true
def plnA : List D → Bool
  | [] => true
  | d :: ds => pln d && plnA ds
def plnK : List (Key × D) → Bool
  | [] => true
  | (_, d) :: r => pln d && plnK r
end
section
variable {K : PySem.W.Frag} {F H : Hp} {R : List Addr}
mutual
theorem rp_dp (s : Same F H) : ∀ {v : V} {d : D}, Rp K F R v d → (py d).canLay0 = true → pln d = true → Dp K H v (py d)
  | _, _, .non, _, _ => .non
  | _, _, .bl b, _, _ => .bl b
  | _, _, .int i, _, _ => .int i
  | _, _, .str z x h, _, _ => by subst h; rw [show py (.str z.cps.toList) = .str (S z.cps.toList) from rfl, S_of]; exact .str z
  | _, .lst ds, .lst h q, hc, hp => .lst (.of (s _ _ h)) (rpA_dp s q (by simpa [py, PyData.canLay0] using hc) (by simpa [pln] using hp))
  | _, .tup ds, .tup h q, hc, hp => .tup (same_tup s h) (rpA_dp s q (by simpa [py, PyData.canLay0] using hc) (by simpa [pln] using hp))
  | _, .dic ds, .dic h q, hc, _ => by simp [py, PyData.canLay0] at hc
  | _, .ob k, .ob h, _, hp => by simp [pln] at hp
  | _, .exn _ _ _, .exn0 _ _ _ _, _, hp => by simp [pln] at hp
  | _, .exn _ _ _, .exn _ _ _ _ _ _ _, _, hp => by simp [pln] at hp
  | _, .tx _, .tx _ _ _ _, _, hp => by simp [pln] at hp
  | _, .cl _, .cl _, _, hp => by simp [pln] at hp
theorem rpA_dp (s : Same F H) : ∀ {vs : List V} {ds : List D}, RpA K F R vs ds → PyData.canLayAll0 (pyA ds) = true → plnA ds = true → DpAll K H vs (pyA ds)
  | _, _, .nil, _, _ => .nil
  | _, d :: ds, .cons r t, hc, hp => by
    have h1 : (py d).canLay0 = true ∧ PyData.canLayAll0 (pyA ds) = true := by simpa [pyA, PyData.canLayAll0] using hc
    have h2 : pln d = true ∧ plnA ds = true := by simpa [plnA] using hp
    exact .cons (rp_dp s r h1.1 h2.1) (rpA_dp s t h1.2 h2.2)
end
end
theorem rdp_dp {K : PySem.W.Frag} (k : Wok K W) {v : V} {d : D} (h : RdP K W v d) (hc : (py d).canLay0 = true) (hp : pln d = true) : Dp K W.H v (py d) := by
  rcases h with h | ⟨p, vs, ds, rfl, rfl, h, n, r⟩
  · exact rp_dp k.sub h hc hp
  · exact .lst (.of h) (rpA_dp k.sub r (by simpa [py, PyData.canLay0] using hc) (by simpa [pln] using hp))
/-- == of data -/
def deq (d e : D) : Bool := PyData.eqv (py d) (py e)
def shp (d : D) : Bool := SeqAt.shaped (py d) && pln d
def oEqB (f : Bool → Bool) : D → D → (D → Prop) → Prop
  | .int i, .int j, q => q (.bl (f (decide (i = j))))
  | .str x, .str y, q => q (.bl (f (decide (x = y))))
  | .bl x, .bl y, q => q (.bl (f (decide (x = y))))
  | d, e, q => shp d = true ∧ shp e = true ∧ q (.bl (f (deq d e)))
def oEq := oEqB id
def oNe := oEqB not
theorem str_dec (z z2 : Str) : decide (V.str z = V.str z2) = decide (z.cps.toList = z2.cps.toList) := by
  refine decide_eq_decide.mpr ⟨fun h => by cases h; rfl, fun h => ?_⟩
  obtain ⟨a⟩ := z
  obtain ⟨b⟩ := z2
  rw [show a = b from Array.toList_inj.mp h]
theorem oEqB_cases {f : Bool → Bool} {d e : D} {q : D → Prop} (h : oEqB f d e q) : (∃ i j, d = .int i ∧ e = .int j ∧ q (.bl (f (decide (i = j))))) ∨ (∃ i j, d = .str i ∧ e = .str j ∧ q (.bl (f (decide (i = j))))) ∨ (∃ i j, d = .bl i ∧ e = .bl j ∧ q (.bl (f (decide (i = j))))) ∨
    (shp d = true ∧ shp e = true ∧ q (.bl (f (deq d e)))) := by
  cases d <;> cases e <;> first | exact .inl ⟨_, _, rfl, rfl, h⟩ | exact .inr (.inl ⟨_, _, rfl, rfl, h⟩) | exact .inr (.inr (.inl ⟨_, _, rfl, rfl, h⟩)) | exact .inr (.inr (.inr h))
theorem shp_and {d : D} (h : shp d = true) : SeqAt.shaped (py d) = true ∧ pln d = true := by simpa [shp] using h
theorem opd_eqB {f : Bool → Bool} {g : Value → Value → Sem Value} (h1 : OpR C.X g (fun x y H Q => scal x y = true ∧ Q (.bl (f (decide (x = y)))) H)) (h2 : OpR C.X g (fun x y H Q => ∃ d e, Dp C.X.K H x d ∧ Dp C.X.K H y e ∧ SeqAt.shaped d = true ∧ SeqAt.shaped e = true ∧ Q (.bl (f (PyData.eqv d e))) H)) :
    OpD C g (oEqB f) := by
  refine ⟨_, h1.or h2, fun W x y d e Q q k r1 r2 hQ h => ?_⟩
  rcases oEqB_cases h with ⟨i, j, rfl, rfl, h⟩ | ⟨i, j, rfl, rfl, h⟩ | ⟨i, j, rfl, rfl, h⟩ | ⟨a, b, h⟩
  · have e1 := r1.int_inv
    have e2 := r2.int_inv
    subst e1 e2
    refine .inl ⟨rfl, hQ _ _ W (Go.refl W) k rfl (.bl _) ?_⟩
    rw [dec_int, Bool.beq_eq_decide_eq]
    exact h
  · obtain ⟨z, rfl, rfl⟩ := r1.str_inv
    obtain ⟨z2, rfl, rfl⟩ := r2.str_inv
    refine .inl ⟨rfl, hQ _ _ W (Go.refl W) k rfl (.bl _) ?_⟩
    rw [str_dec]
    exact h
  · have e1 := r1.bl_inv
    have e2 := r2.bl_inv
    subst e1 e2
    refine .inl ⟨rfl, hQ _ _ W (Go.refl W) k rfl (.bl _) ?_⟩
    rw [dec_bl, Bool.beq_eq_decide_eq]
    exact h
  · obtain ⟨a1, a2⟩ := shp_and a
    obtain ⟨b1, b2⟩ := shp_and b
    exact .inr ⟨py d, py e, rdp_dp k r1 (SeqAt.canLay_of_shaped a1) a2, rdp_dp k r2 (SeqAt.canLay_of_shaped b1) b2, a1, b1, hQ _ _ W (Go.refl W) k rfl (.bl _) h⟩
theorem opd_ne (hu : C.X.A.units + 64 < cLine) : OpD C (compareOp .NotEq) oNe := opd_eqB op_ne (op_neD hu)
/-- is None -/
def isN : D → Bool
  | .non => true
  | _ => false
def oIsN : D → D → (D → Prop) → Prop := fun d e q => match e with | .non => q (.bl (isN d)) | _ => False
def oNotN : D → D → (D → Prop) → Prop := fun d e q => match e with | .non => q (.bl (!isN d)) | _ => False
def oIx : D → D → (D → Prop) → Prop
  | .lst ds, .int i, q => ∃ d, atI ds i = some d ∧ q d
  | .tup ds, .int i, q => ∃ d, atI ds i = some d ∧ q d
  | .str x, .int i, q => x.length ≤ sizeLine ∧ ∃ c, atI x i = some c ∧ q (.str [c])
  | _, _, _ => False
theorem atI_get2 {K : PySem.W.Frag} {F : Hp} {R : List Addr} {vs : List V} {ds : List D} {i : Int} {d : D} (r : RpA K F R vs ds) (h : atI ds i = some d) : ∃ v, atI vs i = some v ∧ Rp K F R v d := by
  unfold atI at h ⊢
  rw [← r.length] at h
  cases hj : ixN vs.length i with
  | none => rw [hj] at h; cases h
  | some j =>
    rw [hj] at h
    exact r.get' h
variable {a b : Expr} {wa wb : EW M}
theorem de_ix (ha : DP C a wa) (hb : DP C b wb) (hs : PlainIx b) : DE C (.Subscript a b pos) (wBin oIx wa wb) := ⟨fun σ ρ W Q q S hQ hw =>
  tOf_of (pe_ix ix_seq pe_tOf pe_tOf hs) (two_run (f := fun _ _ => pure .none) ha hb S (fun W1 x y d e g k r1 r2 q1 => by
    cases d with
    | lst ds =>
      cases e with
      | int i =>
        obtain ⟨d, h1, q1⟩ := q1
        obtain ⟨p, vs, rfl, hp, np, ra⟩ := r1.lst_inv k
        obtain ⟨v, h2, h3⟩ := atI_get2 ra h1
        exact .inl ⟨p, vs, i, v, rfl, r2.int_inv, .of hp, h2, hQ v d W1 g k h3 q1⟩
      | _ => exact q1.elim
    | tup ds =>
      cases e with
      | int i =>
        obtain ⟨d, h1, q1⟩ := q1
        obtain ⟨p, vs, rfl, hp, ra⟩ := r1.tup_inv
        obtain ⟨v, h2, h3⟩ := atI_get2 ra h1
        exact .inr (.inl ⟨p, vs, i, v, rfl, r2.int_inv, same_tup k.sub hp, h2, hQ v d W1 g k h3 q1⟩)
      | _ => exact q1.elim
    | str x =>
      cases e with
      | int i =>
        obtain ⟨hz, c, h1, q1⟩ := q1
        obtain ⟨z, rfl, rfl⟩ := r1.str_inv
        exact .inr (.inr ⟨z, i, c, rfl, r2.int_inv, by rw [str_len]; exact hz, h1, hQ _ _ W1 g k (rp_strS _ rfl) q1⟩)
      | _ => exact q1.elim
    | _ => exact q1.elim) hw)⟩
abbrev OW (M : Ghost) := DEnv → M.G → (Option Int → M.G → Prop) → Prop
def oOf (X : Cx) (e : Option Expr) : TO := fun σ H Q => ∀ (pins : List (Addr × Obj)) (s : Shared), Inv X pins σ H s →
  wpAny (model X.prog X.w) X.A (evalPart e X.env) (fun u s' => ∃ o H', Inv X pins σ H' s' ∧ PySem.IsPart u o ∧ Q o H') X.xe s
theorem po_tOf {X : Cx} {e : Option Expr} : PO X e (oOf X e) := ⟨fun pins s _ _ _ I h => h pins s I⟩
structure DO (C : Ct M) (e : Option Expr) (w : OW M) : Prop where
  run : ∀ (σ : L2.St) (ρ : DEnv) (W : Wd M) (Q : Option Int → Hp → Prop) (q : Option Int → M.G → Prop), Sat C σ ρ W → (∀ o W', Go W W' → Wok C.X.K W' → q o W'.g → Q o W'.H) → w ρ W.g q → oOf C.X e σ W.H Q
@[simp] def wONone : OW M := fun _ g q => q none g
@[simp] def wOSome (w : EW M) : OW M := fun ρ g q => w ρ g fun d g' => asI d fun i => q (some i) g'
theorem do_none : DO C none wONone := ⟨fun σ ρ W Q q S hQ hw pins s I => po_none.run pins s σ W.H Q I (hQ none W (Go.refl W) S.ok hw)⟩
theorem do_some (he : DE C e we) : DO C (some e) (wOSome we) := ⟨fun σ ρ W Q q S hQ hw pins s I => (po_some pe_tOf).run pins s σ W.H Q I (he.run σ ρ W _ _ S (fun v d W' g k r q1 => by
  cases d with
  | int i => exact ⟨i, by cases r; rfl, hQ _ W' g k q1⟩
  | _ => exact q1.elim) hw)⟩
def cutL {α : Type} (xs : List α) (lo hi : Option Int) : List α := (xs.drop (HT.sIx xs.length 0 lo)).take (HT.sIx xs.length xs.length hi - HT.sIx xs.length 0 lo)
theorem RpA.cut {K : PySem.W.Frag} {F : Hp} {R : List Addr} {vs : List V} {ds : List D} (r : RpA K F R vs ds) (lo hi : Option Int) : RpA K F R (cutV vs lo hi) (cutL ds lo hi) := by
  unfold cutV cutL
  rw [r.length]
  exact (r.drop _).take _
theorem cut_all {α : Type} {xs : List α} {lo hi : Option Int} (h : HT.sIx xs.length 0 lo = 0 ∧ HT.sIx xs.length xs.length hi = xs.length) : cutL xs lo hi = xs := by
  unfold cutL
  rw [h.1, h.2]
  simp
def oSl : D → Option Int → Option Int → (D → Prop) → Prop
  | .str x, lo, hi, q => x.length ≤ sizeLine ∧ q (.str (cutL x lo hi))
  | .tup ds, lo, hi, q => q (.tup (cutL ds lo hi))
  | .lst ds, lo, hi, q => q (.lst (cutL ds lo hi))
  | _, _, _, _ => False
def oSlN : D → Option Int → Option Int → (List D → Prop) → Prop
  | .lst ds, lo, hi, q => q (cutL ds lo hi)
  | _, _, _, _ => False
@[simp] def wSl (w : EW M) (l h : OW M) : EW M := fun ρ g q => w ρ g fun d g1 => l ρ g1 fun lo g2 => h ρ g2 fun hi g3 => oSl d lo hi fun r => q r g3
@[simp] def wSlN (w : EW M) (l h : OW M) : NW M := fun ρ g q => w ρ g fun d g1 => l ρ g1 fun lo g2 => h ρ g2 fun hi g3 => oSlN d lo hi fun r => q r g3
variable {lo hi : Option Expr} {wl wh : OW M} {p2 : Pos}
theorem sl_run {rr : V → Option Int → Option Int → Hp → VK → Prop} (ha : DP C a wa) (hl : DO C lo wl) (hh : DO C hi wh) {Q : VK} {q : D → Option Int → Option Int → M.G → Prop} (S : Sat C σ ρ W)
    (h : ∀ W1 x d l u, Go W W1 → Wok C.X.K W1 → RdP C.X.K W1 x d → q d l u W1.g → rr x l u W1.H Q) (hw : wa ρ W.g fun d g1 => wl ρ g1 fun l g2 => wh ρ g2 fun u g3 => q d l u g3) :
    tSl rr (tOf C.X a) (oOf C.X lo) (oOf C.X hi) σ W.H Q :=
  ha.run σ ρ W _ _ S (fun v d W1 g1 k1 r1 q1 => hl.run σ ρ W1 _ _ (S.step g1 k1) (fun l W2 g2 k2 q2 => hh.run σ ρ W2 _ _ (S.step (g1.trans g2) k2) (fun u W3 g3 k3 q3 => h W3 v d l u ((g1.trans g2).trans g3) k3 ((r1.step g2).step g3) q3) q2) q1) hw
theorem de_slice (ha : DP C a wa) (hl : DO C lo wl) (hh : DO C hi wh) : DE C (.Subscript a (.Slice lo hi none p2) pos) (wSl wa wl wh) := ⟨fun σ ρ W Q q S hQ hw =>
  tOf_of (pe_slice ((sl_str.or sl_tupA).or sl_list) pe_tOf po_tOf po_tOf) (sl_run ha hl hh S (fun W1 x d l u g k r q1 => by
    cases d with
    | str y =>
      obtain ⟨z, rfl, rfl⟩ := r.str_inv
      refine .inl (.inl ⟨z, rfl, by rw [str_len]; exact q1.1, hQ _ _ W1 g k (rp_strS _ ?_) q1.2⟩)
      unfold cutS cutL
      rw [str_len]
    | tup ds =>
      obtain ⟨p, vs, rfl, hp, ra⟩ := r.tup_inv
      refine .inl (.inr ⟨p, vs, rfl, same_tup k.sub hp, fun hw => ?_, fun _ t ht => ?_⟩)
      · rw [ra.length] at hw
        rw [show oSl (.tup ds) l u (fun r => q r W1.g) = q (.tup (cutL ds l u)) W1.g from rfl, cut_all hw] at q1
        exact hQ _ _ W1 g k (.tup hp ra) q1
      · exact hQ _ _ (W1.lay t (.tup (cutV vs l u))) (g.trans (Go.lay k ht)) (k.lay ht) (.tup (.of upd_same) ((ra.cut l u).mono (same_new (k.noF ht)) fun _ _ z => z)) q1
    | lst ds =>
      obtain ⟨p, vs, rfl, hp, np, ra⟩ := r.lst_inv k
      exact .inr ⟨p, vs, rfl, .of hp, fun t ht => hQ _ _ (W1.lay t (.lst (cutV vs l u))) (g.trans (Go.lay k ht)) (k.lay ht) (.lst upd_same ((ra.cut l u).mono (same_new (k.noF ht)) fun _ _ z => z)) q1⟩
    | _ => exact q1.elim) hw)⟩
theorem nofresh (g : Go W W1) {p : Addr} (h : W1.H p = none) : W.H p = none := by
  cases z : W.H p with
  | none => rfl
  | some o => exact absurd h (g.live p (by rw [z]; simp))
theorem dn_slice (ha : DP C a wa) (hl : DO C lo wl) (hh : DO C hi wh) : DN C (.Subscript a (.Slice lo hi none p2) pos) (wSlN wa wl wh) := ⟨fun σ ρ W Q q S hQ hw =>
  tOf_of (pe_slice sl_list pe_tOf po_tOf po_tOf) (sl_run ha hl hh S (fun W1 x d l u g k r q1 => by
    cases d with
    | lst ds =>
      obtain ⟨p, vs, rfl, hp, np, ra⟩ := r.lst_inv k
      exact ⟨p, vs, rfl, .of hp, fun t ht => hQ t _ _ (W1.new t (.lst (cutV vs l u))) (g.trans (Go.new k ht)) (k.new ht) upd_same (k.noF ht) (k.noR ht) (nofresh g ht) (ra.cut l u) q1⟩
    | _ => exact q1.elim) hw)⟩

structure CallD (C : Ct M) (f : Value) (r : List D → (D → Prop) → Prop) : Prop where
  run : ∃ rr, CallR C.X f rr ∧ ∀ (W : Wd M) (vs : List V) (ds : List D) (Q : VK) (q : D → Prop), Wok C.X.K W → Paired (RdP C.X.K W) vs ds →
    (∀ v d' W', Go W W' → Wok C.X.K W' → W'.g = W.g → Rp C.X.K W'.F W'.R v d' → q d' → Q v W'.H) → r ds q → rr vs W.H Q
@[simp] def wCB (r : List D → (D → Prop) → Prop) (wa : AW M) : EW M := fun ρ g q => wa ρ g fun ds g' => r ds fun d => q d g'
variable {x : Str} {p : Pos} {id T : String} {r : List D → (D → Prop) → Prop} {rn : List D → (List D → Prop) → Prop} {wA : AW M}
theorem de_callB (hc : CallD C (.builtin id) r) (hg : Gl C.X x) (hm : C.X.mg x = none) (hv : bootBuiltins x = some (.builtin id)) (ha : DAP C (e :: es) wA) (hn : x ≠ "__name__" := by decide) (hdb : (x == ("__debug__" : Str)) = false := by decide)
    (he : starEach (e :: es) C.X.env = (false, eval e C.X.env) :: starEach es C.X.env := by rfl) (hpl : (backTo pos (starEach es C.X.env)).any (·.1) = false := by rfl) : DE C (.Call (.Name x p) (e :: es) [] pos) (wCB r wA) := ⟨fun σ ρ W Q q S hQ hw => by
  obtain ⟨rr, h1, h2⟩ := hc.run
  exact tOf_of (pe_callB h1 hg hm hv pa_tOf hn hdb he hpl) (ha.run σ ρ W _ _ S (fun vs ds W1 g1 k1 r1 q1 => h2 W1 vs ds Q _ k1 r1 (fun v d W2 g2 k2 eg r2 q2 => hQ v d W2 (g1.trans g2) k2 r2 (eg ▸ q2)) q1) hw)⟩
theorem de_callTy (hc : CallD C (.type T) r) (hg : Gl C.X x) (hm : C.X.mg x = none) (hv : bootBuiltins x = some (.type T)) (ha : DAP C (e :: es) wA) (hn : x ≠ "__name__" := by decide) (hdb : (x == ("__debug__" : Str)) = false := by decide)
    (he : starEach (e :: es) C.X.env = (false, eval e C.X.env) :: starEach es C.X.env := by rfl) (hpl : (backTo pos (starEach es C.X.env)).any (·.1) = false := by rfl) : DE C (.Call (.Name x p) (e :: es) [] pos) (wCB r wA) := ⟨fun σ ρ W Q q S hQ hw => by
  obtain ⟨rr, h1, h2⟩ := hc.run
  exact tOf_of (pe_callTy h1 hg hm hv pa_tOf hn hdb he hpl) (ha.run σ ρ W _ _ S (fun vs ds W1 g1 k1 r1 q1 => h2 W1 vs ds Q _ k1 r1 (fun v d W2 g2 k2 eg r2 q2 => hQ v d W2 (g1.trans g2) k2 r2 (eg ▸ q2)) q1) hw)⟩
def cLen : List D → (D → Prop) → Prop
  | [.str x], q => x.length ≤ sizeLine ∧ q (.int x.length)
  | [.lst ds], q => q (.int ds.length)
  | [.tup ds], q => q (.int ds.length)
  | _, _ => False
theorem pair1 {α β : Type} {P : α → β → Prop} {xs : List α} {y : β} (h : Paired P xs [y]) : ∃ x, xs = [x] ∧ P x y := by
  cases h with
  | cons a b => cases b; exact ⟨_, rfl, a⟩
theorem one_of {r : List D → (D → Prop) → Prop} {ds : List D} {q : D → Prop} (h : r ds q) (f : ∀ q, ¬ r [] q) (f2 : ∀ a b c q, ¬ r (a :: b :: c) q) : ∃ d, ds = [d] := by
  cases ds with
  | nil => exact absurd h (f q)
  | cons a t =>
    cases t with
    | nil => exact ⟨a, rfl⟩
    | cons b c => exact absurd h (f2 a b c q)
theorem calld_len : CallD C (.builtin "len") cLen := by
  refine ⟨_, call_len, fun W vs ds Q q k r hQ h => ?_⟩
  obtain ⟨d, rfl⟩ := one_of h (fun _ h => h) (fun a _ _ _ h => by cases a <;> exact h)
  obtain ⟨v, rfl, r0⟩ := pair1 r
  cases d with
  | str x =>
    obtain ⟨z, rfl, rfl⟩ := r0.str_inv
    refine ⟨_, z.length, rfl, ⟨by rw [str_len]; exact h.1, rfl⟩, hQ _ _ W (Go.refl W) k rfl (.int _) ?_⟩
    rw [str_len]
    exact h.2
  | lst ds =>
    obtain ⟨p, vs, rfl, hp, np, ra⟩ := r0.lst_inv k
    exact ⟨_, vs.length, rfl, .inl ⟨vs, .of hp, rfl⟩, hQ _ _ W (Go.refl W) k rfl (.int _) (by rw [ra.length]; exact h)⟩
  | tup ds =>
    obtain ⟨p, vs, rfl, hp, ra⟩ := r0.tup_inv
    exact ⟨_, vs.length, rfl, .inr ⟨vs, same_tup k.sub hp, rfl⟩, hQ _ _ W (Go.refl W) k rfl (.int _) (by rw [ra.length]; exact h)⟩
  | _ => exact h.elim
def cTuple : List D → (D → Prop) → Prop
  | [.lst ds], q => q (.tup ds)
  | [.tup ds], q => q (.tup ds)
  | _, _ => False
theorem calld_tuple : CallD C (.type "tuple") cTuple := by
  refine ⟨_, call_tuple_of, fun W vs ds Q q k r hQ h => ?_⟩
  obtain ⟨d, rfl⟩ := one_of h (fun _ h => h) (fun a _ _ _ h => by cases a <;> exact h)
  obtain ⟨v, rfl, r0⟩ := pair1 r
  cases d with
  | lst ds =>
    obtain ⟨p, vs, rfl, hp, np, ra⟩ := r0.lst_inv k
    exact ⟨p, vs, rfl, .inl ⟨.of hp, fun t ht => hQ _ _ (W.lay t (.tup vs)) (Go.lay k ht) (k.lay ht) rfl (.tup (.of upd_same) (ra.mono (same_new (k.noF ht)) fun _ _ z => z)) h⟩⟩
  | tup ds =>
    obtain ⟨p, vs, rfl, hp, ra⟩ := r0.tup_inv
    exact ⟨p, vs, rfl, .inr ⟨same_tup k.sub hp, hQ _ _ W (Go.refl W) k rfl (.tup hp ra) h⟩⟩
  | _ => exact h.elim
def cList : List D → (List D → Prop) → Prop
  | [.lst ds], q => q ds
  | [.tup ds], q => q ds
  | _, _ => False
def cMin2 : List D → (D → Prop) → Prop
  | [.int i, .int j], q => q (.int (if j < i then j else i))
  | _, _ => False
def cMax2 : List D → (D → Prop) → Prop
  | [.int i, .int j], q => q (.int (if j > i then j else i))
  | _, _ => False
def asS (d : D) (q : List Nat → Prop) : Prop := match d with
  | .str i => q i
  | _ => False
end
end DL
set_option Elab.async false
set_option linter.all false
set_option maxRecDepth 100000
set_option maxHeartbeats 1000000
namespace DL
open PySem L2
section
variable {M : Ghost} {C : Ct M} {W W1 W2 W' : Wd M} {σ : L2.St} {ρ : DEnv} {e : Expr} {es : List Expr} {we : EW M} {pos : Pos}
def rep (d : D) : List Nat := (py d).shown.cps.toList
def repOk (d : D) : Prop := (py d).showable = true ∧ pln d = true ∧ (py d).depth ≤ 60 ∧ (py d).shown.length ≤ sizeLine
theorem Inv.notSm {X : Cx} {pins : List (Addr × Obj)} {H : Hp} {s : Shared} (I : Inv X pins σ H s) (sb : SmB X.base) {a : Addr} {o : HO} (e : H a = some o) : a ≠ sysModules := fun z => by
  obtain ⟨u, hu⟩ := sb
  rw [z, (I.bs _ _ hu).2] at e
  cases e
theorem not_in_cons {a b : Addr} {as : List Addr} (h : a ≠ b) (r : b ∉ as) : b ∉ a :: as := fun z => (List.mem_cons.mp z).elim (fun e => h e.symm) r
theorem not_in_app {b : Addr} {as bs : List Addr} (h : b ∉ as) (r : b ∉ bs) : b ∉ as ++ bs := fun z => (List.mem_append.mp z).elim h r
mutual
theorem rp_reads {X : Cx} {pins : List (Addr × Obj)} {H : Hp} {s : Shared} {F : Hp} {R : List Addr} (I : Inv X pins σ H s) (sb : SmB X.base) (sm : Same F H) : ∀ {v : V} {d : D}, Rp X.K F R v d → pln d = true → ∀ u, RelV v u → ∃ as, Reads s.heap u (py d) as ∧ sysModules ∉ as
  | _, _, .non, _, _, r => by cases r; exact ⟨_, Reads.none, by simp⟩
  | _, _, .bl b, _, _, r => by cases r; exact ⟨_, Reads.bool b, by simp⟩
  | _, _, .int i, _, _, r => by obtain ⟨t, rfl⟩ := r; exact ⟨_, Reads.int i t, by simp⟩
  | _, _, .str z x h, _, _, r => by
    subst h
    obtain ⟨t, rfl⟩ := r
    rw [show py (.str z.cps.toList) = .str (S z.cps.toList) from rfl, S_of]
    exact ⟨_, Reads.str z t, by simp⟩
  | _, .lst ds, .lst h q, hp, _, r => by
    cases r
    obtain ⟨its, rv, ⟨o, n, ho, hc, _, hdat⟩, _⟩ := I.list (.of (sm _ _ h))
    obtain ⟨as, hr, hn⟩ := rpA_reads I sb sm q (by simpa [pln] using hp) its rv
    exact ⟨_, Reads.list ho hc hdat hr, not_in_cons (Inv.notSm I sb (sm _ _ h)) hn⟩
  | _, .tup ds, .tup h q, hp, _, r => by
    cases r
    obtain ⟨its, rv, ⟨o, ho, hc, n, hdat⟩, _⟩ := I.tuple (same_tup sm h)
    obtain ⟨as, hr, hn⟩ := rpA_reads I sb sm q (by simpa [pln] using hp) its rv
    exact ⟨_, Reads.tuple ho hc hdat hr, hn⟩
  | _, .dic ds, .dic (a := a) (kvs := kvs) h q, hp, _, r => by
    cases r
    obtain ⟨_, hsm, vs, kv, o, es, ep, ho, ⟨hc, _⟩, hdat, _, pr, _⟩ := (show ObjOk X.prog X.w H s.heap a (.dK kvs) from I.hok a _ (sm _ _ h))
    obtain ⟨as, bs, h1, h2, h3, h4⟩ := rpK_reads I sb sm q (by simpa [pln] using hp) es.toList vs kv pr
    refine ⟨_, Reads.dict ho hc hdat h1 h2, ?_⟩
    exact not_in_cons (by simpa using hsm) (not_in_app h3 h4)
  | _, .ob k, .ob h, hp, _, _ => by simp [pln] at hp
  | _, .exn _ _ _, .exn0 _ _ _ _, hp, _, _ => by simp [pln] at hp
  | _, .exn _ _ _, .exn _ _ _ _ _ _ _, hp, _, _ => by simp [pln] at hp
  | _, .tx _, .tx _ _ _ _, hp, _, _ => by simp [pln] at hp
theorem rpA_reads {X : Cx} {pins : List (Addr × Obj)} {H : Hp} {s : Shared} {F : Hp} {R : List Addr} (I : Inv X pins σ H s) (sb : SmB X.base) (sm : Same F H) : ∀ {vs : List V} {ds : List D}, RpA X.K F R vs ds → plnA ds = true → ∀ us, Vals vs us → ∃ as, ReadsAll s.heap us (pyA ds) as ∧ sysModules ∉ as
  | _, _, .nil, _, _, r => by cases r; exact ⟨_, ReadsAll.nil, by simp⟩
  | _, d :: ds, .cons h t, hp, _, r => by
    have h2 : pln d = true ∧ plnA ds = true := by simpa [plnA] using hp
    cases r with
    | cons r1 r2 =>
      obtain ⟨as, q1, n1⟩ := rp_reads I sb sm h h2.1 _ r1
      obtain ⟨bs, q2, n2⟩ := rpA_reads I sb sm t h2.2 _ r2
      exact ⟨_, ReadsAll.cons q1 q2, not_in_app n1 n2⟩
theorem rpK_reads {X : Cx} {pins : List (Addr × Obj)} {H : Hp} {s : Shared} {F : Hp} {R : List Addr} (I : Inv X pins σ H s) (sb : SmB X.base) (sm : Same F H) : ∀ {kvs : List (Key × V)} {kds : List (Key × D)}, RpK X.K F R kvs kds → plnK kds = true → ∀ (es : List DictEntry) (vs : List (Key × Value)), KV kvs vs → Pairs (mixKind X.prog X.w) es vs →
    ∃ as bs, ReadsAll s.heap (es.map (·.key)) ((pyK kds).map (·.1)) as ∧ ReadsAll s.heap (es.map (·.val)) ((pyK kds).map (·.2)) bs ∧ sysModules ∉ as ∧ sysModules ∉ bs
  | _, _, .nil, _, _, _, kv, pr => by
    cases kv
    cases pr
    exact ⟨_, _, ReadsAll.nil, ReadsAll.nil, by simp, by simp⟩
  | _, (k, d) :: kds, .cons h t, hp, _, _, kv, pr => by
    have h2 : pln d = true ∧ plnK kds = true := by simpa [plnK] using hp
    cases kv with
    | cons kv1 kv2 =>
      cases pr with
      | cons p1 p2 p3 =>
        rename_i kw kws e es
        obtain ⟨k', u⟩ := kw
        obtain ⟨ek, rv⟩ := kv1
        have ek' : k = k' := ek
        subst ek'
        obtain ⟨as, q1, n1⟩ := rp_reads I sb sm h h2.1 _ rv
        obtain ⟨cs, bs, q2, q3, n2, n3⟩ := rpK_reads I sb sm t h2.2 _ _ kv2 p3
        have p2' : e.val = u := p2
        rcases keyIs_shape (show keyIs k e.key = true from p1) with ⟨i, tk, rfl, ke⟩ | ⟨x, tk, rfl, ke⟩
        · refine ⟨[] ++ cs, as ++ bs, ?_, ?_, not_in_app (by simp) n2, not_in_app n1 n3⟩
          · rw [List.map_cons, ke]; exact ReadsAll.cons (Reads.int i tk) q2
          · rw [List.map_cons, p2']; exact ReadsAll.cons q1 q3
        · refine ⟨[] ++ cs, as ++ bs, ?_, ?_, not_in_app (by simp) n2, not_in_app n1 n3⟩
          · rw [List.map_cons, ke]; exact ReadsAll.cons (Reads.str x tk) q2
          · rw [List.map_cons, p2']; exact ReadsAll.cons q1 q3
end
def rRepr (X : Cx) : List V → Hp → VK → Prop := fun vs H Q => ∃ (v : V) (d : D) (F : Hp) (R : List Addr), vs = [v] ∧ Same F H ∧ Rp X.K F R v d ∧ repOk d ∧ Q (.str (py d).shown) H
theorem cr_repr {X : Cx} (sb : SmB X.base) (hg : X.A.guards = some []) (hu : X.A.units + 64 < cLine) : CallR X (.builtin "repr") (rRepr X) := by
  intro pins s σ H vs us Q I r h
  obtain ⟨v, d, F, R, rfl, sm, rp, ⟨h1, h3, h4, h5⟩, q⟩ := h
  obtain ⟨u, rfl, ru⟩ := vals1 r
  obtain ⟨as, hr, hn⟩ := rp_reads I sb sm rp h3 u ru
  have go : ∀ a, u = .ref a → wpAny (model X.prog X.w) X.A (call (.builtin "repr") [u]) (EP X pins σ Q) X.xe s := fun a e => by
    subst e
    refine repr_of_reads' hr h1 (fun _ => hn) hg (by omega) (fun _ _ h => h) (fun h' u tk hk => ⟨.str _, H, I.kept hk, ⟨_, rfl⟩, q⟩) h5
  cases rp with
  | non => cases ru; exact PySem.P.repr_of_none ⟨.str _, H, I.tok _, ⟨_, rfl⟩, q⟩
  | bl b => cases ru; exact PySem.P.repr_of_bool ⟨.str _, H, I.tok _, ⟨_, rfl⟩, q⟩
  | int i =>
    obtain ⟨t, rfl⟩ := ru
    exact PySem.P.repr_of_int (of_decide_eq_true h1) ⟨.str _, H, I.tok _, ⟨_, rfl⟩, q⟩
  | str z x hz =>
    obtain ⟨t, rfl⟩ := ru
    subst hz
    have ez : (py (.str z.cps.toList)).shown = reprText z := by show reprText (S z.cps.toList) = _; rw [S_of]
    rw [ez] at q h5
    exact PySem.P.repr_of_str ⟨.str _, H, I.tok _, ⟨_, rfl⟩, q⟩ h5
  | lst h q => cases ru; exact go _ rfl
  | tup h q => cases ru; exact go _ rfl
  | dic h q => cases ru; exact go _ rfl
  | ob h => cases ru; exact go _ rfl
  | exn0 => cases ru; exact go _ rfl
  | exn => cases ru; exact go _ rfl
  | tx => cases ru; exact go _ rfl
  | cl => cases ru; exact go _ rfl
def cRepr (ds : List D) (q : D → Prop) : Prop := ∃ d, ds = [d] ∧ repOk d ∧ q (.str (rep d))
theorem calld_repr (sb : SmB C.X.base) (hg : C.X.A.guards = some []) (hu : C.X.A.units + 64 < cLine) : CallD C (.builtin "repr") cRepr := by
  refine ⟨_, cr_repr sb hg hu, fun W vs ds Q q k r hQ h => ?_⟩
  obtain ⟨d, rfl, ho, h⟩ := h
  obtain ⟨v, rfl, r0⟩ := pair1 r
  rcases r0 with r0 | ⟨p, vs, ds, rfl, rfl, hp, np, ra⟩
  · exact ⟨v, d, W.F, W.R, rfl, k.sub, r0, ho, hQ _ _ W (Go.refl W) k rfl (rp_strS _ rfl) h⟩
  · refine ⟨.ref p, .lst ds, upd W.F p (.lst vs), W.R, rfl, fun a o e => ?_, .lst upd_same (ra.mono ?_ fun _ _ z => z), ho, hQ _ _ W (Go.refl W) k rfl (rp_strS _ rfl) h⟩
    · by_cases z : a = p
      · subst z; rw [upd_same] at e; cases e; exact hp
      · rw [upd_ne z] at e; exact k.sub _ _ e
    · intro a o e
      by_cases z : a = p
      · subst z
        have := k.sub _ _ e
        rw [hp] at this
        cases this
        exact upd_same
      · rw [upd_ne z]; exact e
end
end DL
set_option Elab.async false
set_option linter.all false
set_option maxRecDepth 100000
set_option maxHeartbeats 1000000
namespace DL
open PySem L2
/-- the stream: its list at R[0], the large cells' list at R[1], all cells frozen; at most n numbers were mixed -/
def StrOk (K : PySem.W.Frag) (n : Nat) (R : List Addr) (F H : Hp) : Prop := ∃ (a b c : Addr) (L cs : List Int) (m : Int), R[0]? = some a ∧ R[1]? = some b ∧ a ≠ b ∧ H a = some (.lst [.ref b, .ref c, .int m]) ∧ H b = some (.lst (L.map V.int)) ∧
  F c = some (.lst (cs.map V.int)) ∧ 0 ≤ m ∧ m ≤ n ∧ cs ≠ []
@[reducible] def stg : Ghost where
  G := Nat
  ok := fun K n R F H => R.length = 2 ∧ (n ≤ 2 ^ 60 → StrOk K n R F H)
  keep := fun {K g R F H F' H'} h s k => ⟨h.1, fun hn => by
    obtain ⟨a, b, c, L, cs, m, h1, h2, h3, h4, h5, h6, h7⟩ := h.2 hn
    exact ⟨a, b, c, L, cs, m, h1, h2, h3, by rw [k a (List.mem_of_getElem? h1)]; exact h4, by rw [k b (List.mem_of_getElem? h2)]; exact h5, s _ _ h6, h7⟩⟩
/-- a thing of the region, written -/
abbrev Wd.reg {M : Ghost} (W : Wd M) (p : Addr) (o : HO) (g : M.G) : Wd M := { W with H := upd W.H p o, g := g }
section
variable {M : Ghost} {K : PySem.W.Frag} {W : Wd M} {p : Addr} {o : HO} {g : M.G}
theorem Go.reg' (h : p ∈ W.R) : Go W (W.reg p o g) := by
  refine ⟨Same.refl _, fun a x e n => ?_, fun a e => ?_, fun _ z => .inl z, [], by simp, by simp⟩
  · show upd W.H p o a = some x
    rw [upd_ne (show a ≠ p from fun z => n (z ▸ h))]
    exact e
  · show upd W.H p o a ≠ none
    by_cases z : a = p
    · subst z; rw [upd_same]; simp
    · rw [upd_ne z]; exact e
theorem Wok.reg (k : Wok K W) (h : p ∈ W.R) (gh : M.ok K g W.R W.F (upd W.H p o)) : Wok K (W.reg p o g) := by
  refine ⟨fun a x e => ?_, gh, k.rf, fun a ha => ?_⟩
  · show upd W.H p o a = some x
    rw [upd_ne (show a ≠ p from fun z => by subst z; rw [k.rf _ h] at e; cases e)]
    exact k.sub _ _ e
  · show upd W.H p o a ≠ none
    by_cases z : a = p
    · subst z; rw [upd_same]; simp
    · rw [upd_ne z]; exact k.rh a ha
end
/-- a draw below many -/
def dDraw : DSp stg := fun ds g q _ => ∃ many : Int, ds = [.ob 0, .int many] ∧ 0 < many ∧ many < 1152921504606846976 ∧ g + 1 ≤ 2 ^ 60 ∧ ∀ v : Int, 0 ≤ v → v < many → q (.int v) (g + 1)
theorem map_int_get {L : List Int} {i : Nat} {x : V} (h : (L.map V.int)[i]? = some x) : ∃ j, x = .int j ∧ L[i]? = some j := by
  rw [List.getElem?_map] at h
  cases q : L[i]? with
  | none => rw [q] at h; cases h
  | some j => rw [q] at h; cases h; exact ⟨j, rfl, rfl⟩
/-- the stream is made -/
def spStream (K : PySem.W.Frag) : Sp := fun vs H Q _ => ∃ (a : Addr) (ns : List Int), vs = [.ref a] ∧ SqL K H a (ns.map V.int) ∧ ns.length ≤ 63 ∧
  ∀ (H' : Hp) (p b c : Addr) (L cs : List Int), Same H H' → H p = none → H b = none → H c = none → p ≠ b → p ≠ c → b ≠ c → H' p = some (.lst [.ref b, .ref c, .int 0]) → H' b = some (.lst (L.map V.int)) → H' c = some (.lst (cs.map V.int)) → cs ≠ [] → Q (.ref p) H'
/-- what the rest of a draw needs of the state -/
structure DrawAt (K : PySem.W.Frag) (W W1 : Wd stg) (a b c : Addr) (L cs : List Int) (m : Int) : Prop where
  go : Go W W1
  ok : Wok K W1
  g : W1.g = W.g
  r0 : W1.R[0]? = some a
  r1 : W1.R[1]? = some b
  ne : a ≠ b
  ha : W1.H a = some (.lst [.ref b, .ref c, .int m])
  hb : W1.H b = some (.lst (L.map V.int))
  hc : W1.F c = some (.lst (cs.map V.int))
  m0 : 0 ≤ m
  mn : m ≤ W.g
  cs0 : cs ≠ []
section
variable {K : PySem.W.Frag} {W W1 W2 : Wd stg} {a b c : Addr} {L cs : List Int} {m : Int}
theorem DrawAt.new (d : DrawAt K W W1 a b c L cs m) {p : Addr} {o : HO} (h : W1.H p = none) : DrawAt K W (W1.new p o) a b c L cs m := by
  have na : a ≠ p := ne_of_none d.ha h
  have nb : b ≠ p := ne_of_none d.hb h
  exact ⟨d.go.trans (Go.new d.ok h), d.ok.new h, d.g, d.r0, d.r1, d.ne, (upd_ne na).trans d.ha, (upd_ne nb).trans d.hb, d.hc, d.m0, d.mn, d.cs0⟩
theorem DrawAt.setB (d : DrawAt K W W1 a b c L cs m) (L' : List Int) : DrawAt K W (W1.reg b (.lst (L'.map V.int)) W1.g) a b c L' cs m := by
  have hb := List.mem_of_getElem? d.r1
  have ok' : Wok K (W1.reg b (.lst (L'.map V.int)) W1.g) := d.ok.reg hb ⟨d.ok.gh.1, fun hn => ⟨a, b, c, L', cs, m, d.r0, d.r1, d.ne, (upd_ne d.ne).trans d.ha, upd_same, d.hc, d.m0, by rw [show ((W1.g : Nat) : Int) = ((W.g : Nat) : Int) from congrArg Int.ofNat d.g]; exact d.mn, d.cs0⟩⟩
  exact ⟨d.go.trans (Go.reg' hb), ok', d.g, d.r0, d.r1, d.ne, (upd_ne d.ne).trans d.ha, upd_same, d.hc, d.m0, d.mn, d.cs0⟩
end

theorem wok_more {K : PySem.W.Frag} {W : Wd stg} (k : Wok K W) {n : Nat} (h : W.g ≤ n) : Wok K ({ W with g := n } : Wd stg) := by
  refine ⟨k.sub, ⟨k.gh.1, fun hn => ?_⟩, k.rf, k.rh⟩
  obtain ⟨a, b, c, L, cs, m, h1, h2, h3, h4, h5, h6, h7, h8, h9⟩ := k.gh.2 (Nat.le_trans h hn)
  refine ⟨a, b, c, L, cs, m, h1, h2, h3, h4, h5, h6, h7, ?_, h9⟩
  exact Int.le_trans h8 (Int.ofNat_le.mpr h)
theorem go_more {W : Wd stg} {n : Nat} : Go W ({ W with g := n } : Wd stg) := ⟨Same.refl _, fun _ _ h _ => h, fun _ h => h, fun _ h => .inl h, [], by simp, by simp⟩

section
variable {M : Ghost} {C : Ct M} {W W1 W2 W' : Wd M} {σ : L2.St} {ρ : DEnv} {e e2 : Expr} {we wi : EW M} {pos apos cpos p1 : Pos}
@[simp] def wApp (i : Nat) (we : EW M) : SW M := fun k ρ g => ∃ ds, ρ[i]? = some (.own ds) ∧ we ρ g fun d g' => ds.length < sizeLine ∧ k.nx (ρ.set i (.own (ds ++ [d]))) g'
/-- x.append(e), x a list of one's own -/
theorem ds_append {i : Nat} {x : Str} (hv : PE C.X (.Name x p1) (tVar i)) (he : DE C e we) (hline : (apos.endLine == cpos.line) = true := by rfl)
    (hs : swapsWith (.Call (.Attribute (.Name x p1) "append" apos) [e] [] cpos) none pos.line C.X.env = pure false := by rfl)
    (hst : starEach [e] C.X.env = (false, eval e C.X.env) :: starEach [] C.X.env := by rfl) (hbase : attributeBase (.Name x p1) "append" C.X.env (eval (.Name x p1) C.X.env) = eval (.Name x p1) C.X.env := by rfl)
    (hpl : (backTo cpos (starEach [] C.X.env)).any (·.1) = false := by rfl)
    (hfew : ((backTo cpos (starEach [e] C.X.env)).all (fun x => !x.1) && (backToKw cpos (keywordEach [] C.X.env)).all (fun x => x.1.isSome) && decide ([e].length + ([] : List Keyword).length + (if ([] : List Keyword).isEmpty then 0 else 1) < 30)) = true := by rfl) :
    DS C (.Expr (.Call (.Attribute (.Name x p1) "append" apos) [e] [] cpos) pos) (wApp i we) := ⟨fun σ ρ W k E S l h => by
  obtain ⟨ds, e0, h⟩ := h
  obtain ⟨o, h1, p, vs, h2, h3, h4, h5, h6, r⟩ := S.sl i _ e0
  subst h2
  refine tsOf_of (ps_expr (pe_bm PySem.F.plainAttrs_list PySem.F.slot_list_append PySem.F.type_list_append mt_append hv (pa_cons pe_tOf pa_nil hst) hbase hfew hline hst hpl) hs) ⟨.ref p, h1, .inl ⟨rfl, vs, .of h3⟩, ?_⟩
  refine he.run σ ρ W _ _ S (fun v d W1 g1 k1 r1 q1 => ?_) h
  have S1 := S.step g1 k1
  obtain ⟨o2, a1, p2, vs2, a2, a3, a4, a5, a6, r2⟩ := S1.sl i _ e0
  subst a2
  rw [h1] at a1
  cases a1
  have ev : vs2 = vs := by
    have := g1.keep _ _ h3 h5
    rw [a3] at this
    cases this
    rfl
  subst ev
  obtain ⟨S2, g2⟩ := S1.write e0 h1 (r2.append (.cons r1 .nil))
  exact ⟨p, vs2, v, rfl, rfl, a3, by rw [r2.length]; exact q1.1, l.nx _ _ _ (g1.s.trans g2) S2 q1.2⟩⟩
@[simp] def wStore (i : Nat) (we wi : EW M) : SW M := fun k ρ g => ∃ ds, ρ[i]? = some (.own ds) ∧ we ρ g fun d g1 => wi ρ g1 fun x g2 => asI x fun j => ∃ m, ixN ds.length j = some m ∧ k.nx (ρ.set i (.own (ds.set m d))) g2
/-- x[e2] = e, x a list of one's own -/
theorem ds_store {i : Nat} {x : Str} {spos : Pos} (hv : PE C.X (.Name x p1) (tVar i)) (he : DE C e we) (hi : DE C e2 wi)
    (ha : ∀ v, assign (.Subscript (.Name x p1) e2 spos) C.X.env v = (do
      let ov ← holding [v] (eval (.Name x p1) C.X.env)
      let iv ← holding [v, ov] (eval e2 C.X.env)
      standAt spos
      holding [v, ov, iv] (setItem ov iv v)
      release [v, ov, iv] []) := by intro _; rfl)
    (hs : swapsWithSole [.Subscript (.Name x p1) e2 spos] e pos.line C.X.env = pure false := by rfl) (hw : swappedStores [.Subscript (.Name x p1) e2 spos] e C.X.env = pure none := by rfl)
    (h1 : (assignEach [.Subscript (.Name x p1) e2 spos] C.X.env).map (·.2) = [assign (.Subscript (.Name x p1) e2 spos) C.X.env] := by rfl) :
    DS C (.Assign [.Subscript (.Name x p1) e2 spos] e pos) (wStore i we wi) := ⟨fun σ ρ W k E S l h => by
  obtain ⟨ds, e0, h⟩ := h
  obtain ⟨o, h1', p, vs, h2, h3, h4, h5, h6, r⟩ := S.sl i _ e0
  subst h2
  refine tsOf_of (ps_asg pe_tOf (pg_sub hv pe_tOf set_list ha) hs hw h1) ?_
  refine he.run σ ρ W _ _ S (fun v d W1 g1 k1 r1 q1 => ⟨.ref p, h1', ?_⟩) h
  refine hi.run σ ρ W1 _ _ (S.step g1 k1) (fun u x W2 g2 k2 r2 q2 => ?_) q1
  cases x with
  | int j =>
    obtain ⟨m, hm, q2⟩ := q2
    have S2 := S.step (g1.trans g2) k2
    obtain ⟨o2, a1, p2, vs2, a2, a3, a4, a5, a6, r3⟩ := S2.sl i _ e0
    subst a2
    rw [h1'] at a1
    cases a1
    obtain ⟨S3, g3⟩ := S2.write e0 h1' (r3.set (r1.step g2) m)
    exact ⟨p, vs2, j, m, rfl, by cases r2; rfl, a3, by rw [r3.length]; exact hm, l.nx _ _ _ ((g1.trans g2).s.trans g3) S3 q2⟩
  | _ => exact q2.elim⟩
end
end DL
set_option Elab.async false
set_option linter.all false
set_option maxRecDepth 100000
set_option maxHeartbeats 1000000
namespace DL
open PySem PySem.Spec PyProof.Rows L2
/-- the tracked heap of a law's entry: the script alone, or nothing where the script is the module's own -/
def hp0 (K : PySem.W.Frag) (a : Addr) (ob : Obj) (ns : List Int) : Hp := fun b => if b = a ∧ K.lookup a = none then some (.frz ob (.lst (ns.map V.int))) else none
theorem hp0_some {K : PySem.W.Frag} {a b : Addr} {ob : Obj} {ns : List Int} {u : HO} (h : hp0 K a ob ns b = some u) : b = a ∧ K.lookup a = none ∧ u = .frz ob (.lst (ns.map V.int)) := by
  unfold hp0 at h
  split at h
  · rename_i q
    exact ⟨q.1, q.2, (Option.some.inj h).symm⟩
  · cases h
theorem law_callG {P : Program} {w : World} {K : PySem.W.Frag} {mg mb : Str → Option Value} {k : Nat} {fa a : Addr} {fd : FuncData} {x : Str} {sp : Sp} {s1 : Shared} {vs : List Value} {ns : List Int}
    (kin : K.In s1.heap) (nsG : s1.heap.Ns mainGlobals mg) (nsB : s1.heap.Ns builtinsNs mb) (boot : ∀ x : Str, x ≠ "__name__" → mb x = bootBuiltins x) (lim : s1.heap.NoLimit) (gens : s1.gens = #[])
    (ha : s1.heap.get? a = some { cls := .type "list", data := .seq vs.toArray }) (hi : IntsAre vs ns) (hl : ns.length ≤ sizeLine) (room : Room k callerA) (mods : ∃ mm, s1.heap.Ns sysModules mm)
    (F : ∀ base : Heap, K.In base → base.Ns mainGlobals mg → SmB base → FnG P w K mg base k fa fd [x] sp) (hbind : ∀ (s : Shared) (u : Value), BindsTo s fd ⟨[u], []⟩ [(x, u)])
    (want : ∀ H : Hp, SqL K H a (ns.map V.int) → sp [.ref a] H (fun v _ => v = .bl true) fun _ _ _ => False) :
    codeAny (model P w) callerA (.call (.ref fa) ⟨[.ref a], []⟩) (fun r s' => r = .ok (.ret (.bool true)) ∧ OldK s1.heap s'.heap ∧ s'.os = s1.os ∧ AllBare s'.gens) s1 := by
  have rel := vals_ints hi
  generalize hob : ({ cls := .type "list", data := .seq vs.toArray } : Obj) = ob at ha
  -- the script is read in it
  have seq : SqL K (hp0 K a ob ns) a (ns.map V.int) := by
    cases q : K.lookup a with
    | none => exact .inl (.inr ⟨ob, by unfold hp0; rw [if_pos ⟨rfl, q⟩]⟩)
    | some o =>
      have e := kin a o q
      rw [ha] at e
      cases e
      subst hob
      exact .inr ⟨_, vs.toArray, _, q, rfl, rfl, rfl, by rw [List.size_toArray, hi.length]; exact hl, by simpa using rel⟩
  have held : HOk P w (hp0 K a ob ns) s1.heap := fun b u e => by
    obtain ⟨rfl, _, rfl⟩ := hp0_some e
    subst hob
    exact ⟨ha, by rw [List.length_map]; exact hl, vs, _, rel, ha⟩
  -- what is not the script stands in the base
  have keep : ∀ {b : Addr} {o : Obj}, s1.heap.get? b = some o → hp0 K a ob ns b = none → (hidT s1.heap (hp0 K a ob ns)).get? b = some o := fun e n => hidT_get e n
  have dict : ∀ {b : Addr} {m : Str → Option Value}, s1.heap.Ns b m → (hidT s1.heap (hp0 K a ob ns)).Ns b m := fun {b m} ⟨o, es, ep, e, d, r⟩ => by
    refine ⟨o, es, ep, keep e ?_, d, r⟩
    cases q : hp0 K a ob ns b with
    | none => rfl
    | some u =>
      obtain ⟨rfl, _, _⟩ := hp0_some q
      rw [ha] at e
      cases e
      subst hob
      cases d
  have kin' : K.In (hidT s1.heap (hp0 K a ob ns)) := fun b o e => keep (kin b o e) (by
    cases q : hp0 K a ob ns b with
    | none => rfl
    | some u =>
      obtain ⟨rfl, z, _⟩ := hp0_some q
      rw [z] at e
      cases e)
  have modl : Mod K mg (hidT s1.heap (hp0 K a ob ns)) := ⟨kin', dict nsG, ⟨mb, dict nsB, boot⟩, let ⟨mc, q1, q2⟩ := lim; ⟨mc, dict q1, q2⟩⟩
  have entry : Env0 P w K mg (hidT s1.heap (hp0 K a ob ns)) callerA [] s1 (hp0 K a ob ns) :=
    ⟨rfl, modl, fun b o e => of_hidT e, Nat.le_of_eq (hidT_size _ _), trivial, (fun b hb => by cases hb), held, .of_eq gens⟩
  have smb : SmB (hidT s1.heap (hp0 K a ob ns)) := by
    obtain ⟨mm, hm⟩ := mods
    obtain ⟨o, es, ep, e, _⟩ := dict hm
    exact ⟨o, e⟩
  have run := (F _ kin' (dict nsG) smb).run callerA [] s1 (hp0 K a ob ns) ⟨[.ref a], []⟩ [.ref a] [.ref a] _ _ room rfl entry (hbind s1 (.ref a)) (.cons rfl .nil) (want _ seq)
  refine codeAny_mono run fun r s2 h => ?_
  match r, h with
  | .error e, h =>
    obtain ⟨_, _, _, _, _, _, _, _, _, _, _, _, z⟩ := h
    exact z.elim
  | .ok (.ret u), ⟨v, H2, os, bare, un, held2, ru, q⟩ =>
    have q' : v = .bl true := q
    subst q'
    obtain rfl : u = Value.bool true := ru
    refine ⟨rfl, OldK.of_keep fun b o e => ?_, os, bare⟩
    cases z : hp0 K a ob ns b with
    | none => exact un.keep b o e z (by intro y; cases y) (by simp)
    | some u =>
      obtain ⟨_, _, rfl⟩ := hp0_some z
      obtain ⟨e1, _⟩ := held b _ z
      obtain ⟨e2, _⟩ := held2 b _ (un.frzs b ob _ z)
      rw [e] at e1
      cases e1
      exact e2
/-- the goal that k_head leaves, from the law's promise -/
theorem walkG {l : PySem.W.OpenLaw} {n k : Nat} {q : Program} {loose : List Str} {XP : (Str → Option Value) → Heap → Prop} {YP : World → Heap → Prop} {d : DefRec} {K : Params → PySem.W.Frag} {sp : World → Sp} {x : Str}
    (hn : l.most = some n) (hi : importsNone q = true) (hn2 : n ≤ sizeLine) (hdf : d.params.defaults = []) (room : Room k callerA) (hY : ∀ (w : World) (h : Heap), YP w h → (K w.params).In h)
    (F : ∀ (w : World) (mg : Str → Option Value) (fa : Addr) (h : Heap), (K w.params).In h → h.Ns mainGlobals mg → mg d.name = some (.ref fa) →
      ∃ fd : FuncData, (∀ (s : Shared) (u : Value), BindsTo s fd ⟨[u], []⟩ [(x, u)]) ∧ ∀ base : Heap, (K w.params).In base → base.Ns mainGlobals mg → SmB base → FnG l.prog w (K w.params) mg base k fa fd [x] (sp w))
    (want : ∀ (w : World) (H : Hp) (a : Addr) (ns : List Int), ns.length ≤ n → SqL (K w.params) H a (ns.map V.int) → sp w [.ref a] H (fun v _ => v = .bl true) fun _ _ _ => False) :
    PySem.W.WalkO q loose XP YP l.row.toRowW d [] (fun f vs => PySem.call f vs) :=
  Att.attach_call hn hdf fun w s0 s1 mg mb fa o pm cd doc a vs ns G Y ho hd hcd hmg hobj hints hlen hg => by
    obtain ⟨fd, hb, hF⟩ := F w mg fa _ (hY w _ Y) G.T.g hmg
    exact law_callG (hY w _ Y) G.T.g G.T.b G.T.builtins G.T.nolimit hg hobj hints (Nat.le_trans hlen hn2) room (let ⟨mm, h, _⟩ := (G.T.seer hi).mods; ⟨mm, h⟩) hF hb fun H hS => want w H a ns hlen hS
/-- a law whose first statement makes the stream; the rest by data -/
def spLaw (K : PySem.W.Frag) : Sp := fun vs H Q _ => ∃ (a : Addr) (ns : List Int), vs = [.ref a] ∧ SqL K H a (ns.map V.int) ∧ ns.length ≤ 63 ∧ ∀ H', Q (.bl true) H'
@[simp] def kLaw : K3 stg := { nx := fun _ _ => False, rt := fun d _ => d = .bl true, bk := fun _ _ => False, ct := fun _ _ => False }
/-- the slots at the law's first step: the script is not looked at any more -/
@[simp] def rhoLaw (n i : Nat) : DEnv := (List.replicate n Sl.no).set i (.im (.ob 0))
theorem takes_none {M : Ghost} {X : Cx} {W0 B : Wd M} : TakesD (M := M) ⟨X, W0, xno, B⟩ := fun u s' x => by
  obtain ⟨_, _, _, _, _, _, _, _, _, _, _, _, _, _, _, _, z⟩ := x
  obtain ⟨_, _, _, _, _, _, y⟩ := z
  exact y.elim
theorem law_of {P : Program} {w : World} {K : PySem.W.Frag} {mg : Str → Option Value} {base : Heap} {x qual scr : Str} {st st0 : Stmt} {rest : List Stmt} {f : Addr} {fd : FuncData} {N : List Str} {k i : Nat} {wr : SW stg} (F : Fun K x qual st f fd) (Sc : FnScope N [scr] (defScope st)) (hi : 0 < i)
    (hst : defBody st = st0 :: rest)
    (h0 : ∀ (cdv : Value) (A : Around) (outer : List Env) (s : Shared) (H : Hp) (E : XK), Room k (A.deeper (envOfC qual (defScope st) s.heap.objs.size f cdv)) → A.guards = some [] →
      PS (cxOf (L2N.CX P w) P w K mg base N qual (defScope st) f cdv A outer s H E) st0 (tAsg (tCallG (spStream K) (fun _ => E0) (tCons (tVar 0) tNil)) (gName i)))
    (hbody : ∀ (cdv : Value) (A : Around) (outer : List Env) (s : Shared) (H : Hp) (E : XK) (W0 : Wd stg), Room k (A.deeper (envOfC qual (defScope st) s.heap.objs.size f cdv)) → A.guards = some [] →
      TakesD (M := stg) ⟨cxOf (L2N.CX P w) P w K mg base N qual (defScope st) f cdv A outer s H E, W0, xno, W0⟩ → DSs (M := stg) ⟨cxOf (L2N.CX P w) P w K mg base N qual (defScope st) f cdv A outer s H E, W0, xno, W0⟩ rest wr)
    (hpure : wr kLaw (rhoLaw N.length i) 0) : FnG P w K mg base (k + 1) f fd [scr] (spLaw K) := by
  refine fng_of F Sc (fun vs H Q E h => ?_) (fun cdv A outer s H vs Q E hr hgd h => ?_)
  · obtain ⟨a, ns, rfl, _⟩ := h
    rfl
  · obtain ⟨a, ns, rfl, hS, hlen, hQ⟩ := h
    rw [hst]
    refine ⟨_, pss_cons (h0 cdv A outer s H E hr hgd) pss_tOf, ?_⟩
    have hN : 0 < N.length := by
      have := congrArg List.length Sc.pre
      rw [List.length_take] at this
      simp at this
      omega
    refine ⟨.ref a, ?_, a, ns, rfl, hS, hlen, fun H1 p b c L cs sm np nb nc pb pc bc hp hb hc hcs => ?_⟩
    · unfold L2.start
      rw [List.map_cons, List.cons_append]
      rfl
    have none1 : ∀ {q r : Addr} {o : HO}, q ≠ r → upd (fun _ => none) r o q = none := fun h => upd_ne h
    have sub1 : Same (upd (fun _ => none) c (.lst (cs.map V.int))) H1 := fun q o e => by
      by_cases z : q = c
      · subst z; rw [upd_same] at e; cases e; exact hc
      · rw [none1 z] at e; cases e
    generalize hW1 : ({ F := upd (fun _ => none) c (.lst (cs.map V.int)), H := H1, R := [p, b], g := (0 : Nat) } : Wd stg) = W1
    have ok1 : Wok K W1 := by
      subst hW1
      refine ⟨sub1, ⟨rfl, fun _ => ⟨p, b, c, L, cs, 0, rfl, rfl, pb, hp, hb, upd_same (H := fun _ => none) (a := c) (o := .lst (cs.map V.int)), Int.le_refl _, Int.le_refl _, hcs⟩⟩, fun q hq => ?_, fun q hq => ?_⟩
      · rcases List.mem_cons.mp hq with rfl | hq
        · exact none1 pc
        · rw [List.mem_singleton.mp hq]; exact none1 bc
      · rcases List.mem_cons.mp hq with rfl | hq
        · show H1 q ≠ none; rw [hp]; simp
        · rw [List.mem_singleton.mp hq]; show H1 b ≠ none; rw [hb]; simp
    have eH : W1.H = H1 := by subst hW1; rfl
    have eg : W1.g = (0 : Nat) := by subst hW1; rfl
    have eR : W1.R = [p, b] := by subst hW1; rfl
    have sat : Sat (M := stg) ⟨cxOf (L2N.CX P w) P w K mg base N qual (defScope st) f cdv A outer s H E, W1, xno, W1⟩ ((L2.start N [.ref a]).set i (some (.ref p))) (rhoLaw N.length i) W1 := by
      refine ⟨ok1, Go.refl _, ?_, fun j t e => ?_, fun j l s1 s2 q e1 _ w1 _ _ _ => ?_, Gs.refl _⟩
      · unfold rhoLaw L2.start
        simp
        omega
      · unfold rhoLaw at e
        have hj : j < N.length := by
          have := (List.getElem?_eq_some_iff.mp e).1
          simpa using this
        have hs : (L2.start N [.ref a]).length = N.length := by
          unfold L2.start
          simp
          omega
        by_cases z : i = j
        · subst z
          rw [List.getElem?_set_self (by simpa using hj)] at e
          cases e
          exact ⟨_, List.getElem?_set_self (by rw [hs]; exact hj), .ref p, rfl, .ob (by rw [eR]; rfl)⟩
        · rw [List.getElem?_set_ne z, List.getElem?_replicate, if_pos hj] at e
          cases e
          exact ⟨_, List.getElem?_eq_getElem (by rw [List.length_set, hs]; exact hj), trivial⟩
      · unfold rhoLaw at e1
        by_cases z : i = j
        · subst z
          have hj := (List.getElem?_eq_some_iff.mp e1).1
          rw [List.length_set] at hj
          rw [List.getElem?_set_self hj] at e1
          cases e1
          cases w1
        · rw [List.getElem?_set_ne z, List.getElem?_replicate] at e1
          split at e1 <;> cases e1
          cases w1
    show tssOf _ rest _ _ H1
    rw [← eH]
    refine (hbody cdv A outer s H E W1 hr hgd takes_none).run _ _ W1 kLaw _ sat ⟨fun _ _ _ _ _ z => z.elim, fun v d W' _ _ r z => ?_, fun _ _ _ _ _ z => z.elim, fun _ _ _ _ _ z => z.elim⟩ (by rw [eg]; exact hpure)
    have z' : d = .bl true := z
    subst z'
    rw [r.bl_inv]
    exact hQ _
theorem passLN {X : Cx} : L2.Passes (L2N.CX X.prog X.w) X E0 := fun pins σ H s e s' I c => by
  obtain ⟨a, B, H', cls, d, _, _, _, _, _, _, _, z⟩ := c
  exact z.elim
end DL
set_option Elab.async false
set_option linter.all false
set_option maxRecDepth 100000
set_option maxHeartbeats 1000000
namespace DL
open PySem L2
/-- a def of the text that keeps a promise by data: called by its name -/
structure FnB (P : Program) (w : World) (K : PySem.W.Frag) (mg : Str → Option Value) (base : Heap) (k : Nat) (x : Str) (ps : List Str) (sp : Sp) : Prop where
  ex : ∃ (f : Addr) (fd : FuncData), FnG P w K mg base k f fd ps sp ∧ mg x = some (.ref f) ∧ PySem.W.keepIn K (.ref f) = true ∧ Binds K fd ps []
section
variable {M : Ghost} {C : Ct M} {W W1 W2 W' : Wd M} {σ : L2.St} {ρ : DEnv} {e : Expr} {es : List Expr} {we : EW M} {pos p : Pos} {wa : AW M}
@[simp] def wCallB (n : Nat) (sp : DSp M) (wa : AW M) (EX : Exn → DEnv → M.G → Prop) : EW M := fun ρ g q => wa ρ g fun ds g' => ds.length = n ∧ sp ds g' q fun x g2 => EX x ρ g2
theorem de_callF {k : Nat} {ps : List Str} {n : Nat} {sp : DSp M} {x : Str} (F : FnB C.X.prog C.X.w C.X.K C.X.mg C.X.base k x ps (liftSp C.X.K C.X.mg n sp)) (hgd : C.X.A.guards = some []) (hr : Room k C.X.A) (tk : TakesD C) (ha : DA C (e :: es) wa)
    (hg : Gl C.X x := by rfl) (hdb : (x == ("__debug__" : Str)) = false := by decide) (he : starEach (e :: es) C.X.env = (false, eval e C.X.env) :: starEach es C.X.env := by rfl) (hpl : (backTo pos (starEach es C.X.env)).any (·.1) = false := by rfl) :
    DE C (.Call (.Name x p) (e :: es) [] pos) (wCallB n sp wa C.EX) := ⟨fun σ ρ W Q q S hQ hw => by
  obtain ⟨f, fd, F, hm, hk, hb⟩ := F.ex
  exact tOf_of (pe_callG (E := fun σ => EXs C σ) F hgd hr hg hm hk hb (fun σ => L2N.passAt tk σ) pa_tOf hdb he hpl) (ha.run σ ρ W _ _ S (fun vs ds W1 g1 k1 r1 q1 =>
    ⟨W1, ds, q, fun x g => C.EX x ρ g, rfl, k1, r1, q1.1, q1.2, fun v d W2 g2 k2 r2 q2 => hQ v d W2 (g1.trans g2) k2 r2 q2, fun cls d H' h => exs_of (S.step g1 k1) (fun _ _ z => z) h⟩) hw)⟩
/-- .. that may be called where an exception is handled -/
structure FnQB (P : Program) (w : World) (K : PySem.W.Frag) (mg : Str → Option Value) (base : Heap) (k : Nat) (x : Str) (ps : List Str) (sp : Around → Sp) : Prop where
  ex : ∃ (f : Addr) (fd : FuncData), FnQ P w K mg base k f fd ps sp ∧ mg x = some (.ref f) ∧ PySem.W.keepIn K (.ref f) = true ∧ Binds K fd ps []
theorem lift_hot {M : Ghost} {K : PySem.W.Frag} {mg : Str → Option Value} {n : Nat} {sp : DSp M} {A : Around} {xs : List V} {H : Hp} {Q : VK} {E : XK} (hd : A.handled = none) (h : liftSp K mg n sp xs H Q E) : liftSpH K mg n sp A xs H Q E := by
  obtain ⟨W, ds, q, ex, h1, h2, h3, h4, h5, h6⟩ := h
  exact ⟨W, ds, q, ex, h1, h2, h3, h4, h5, h6, .inl hd⟩
theorem lift_len {M : Ghost} {K : PySem.W.Frag} {mg : Str → Option Value} {n : Nat} {sp : DSp M} {xs : List V} {H : Hp} {Q : VK} {E : XK} (h : liftSp K mg n sp xs H Q E) : xs.length = n := by
  obtain ⟨W, ds, q, ex, h1, h2, h3, h4, _⟩ := h
  rw [h3.length, h4]
theorem FnQB.b {M : Ghost} {P : Program} {w : World} {K : PySem.W.Frag} {mg : Str → Option Value} {base : Heap} {k n : Nat} {x : Str} {ps : List Str} {sp : DSp M} (F : FnQB P w K mg base k x ps (liftSpH K mg n sp)) (hn : n = ps.length := by rfl) : FnB P w K mg base k x ps (liftSp K mg n sp) := by
  subst hn
  obtain ⟨f, fd, F, h⟩ := F.ex
  exact ⟨f, fd, F.g (fun _ _ _ _ => lift_len) (fun _ _ _ _ _ hd => lift_hot hd), h⟩
theorem fnB_of {P : Program} {w : World} {K : PySem.W.Frag} {mg : Str → Option Value} {base : Heap} {x qual : Str} {st : Stmt} {f : Addr} {fd : FuncData} {k : Nat} {ps : List Str} {sp : Sp} (F : Fun K x qual st f fd) (g : mg x = some (.ref f)) (G : FnG P w K mg base k f fd ps sp) (b : Binds K fd ps []) : FnB P w K mg base k x ps sp :=
  ⟨f, fd, G, g, F.kp, b⟩

/-- the end of a def over the stream: the bound may be given greater -/
@[simp] def kEndS (q : D → Nat → Prop) : K3 stg := { nx := fun _ (g : Nat) => ∃ n : Nat, g ≤ n ∧ q .non n, rt := fun d (g : Nat) => ∃ n : Nat, g ≤ n ∧ q d n, bk := fun _ _ => False, ct := fun _ _ => False }
theorem fnS_of {P : Program} {w : World} {K : PySem.W.Frag} {mg : Str → Option Value} {base : Heap} {x qual : Str} {st : Stmt} {f : Addr} {fd : FuncData} {N ps : List Str} {k : Nat} {sp : DSp stg} {wb : (Exn → stg.G → Prop) → SW stg} (F : Fun K x qual st f fd) (Sc : FnScope N ps (defScope st))
    (hbody : ∀ (cdv : Value) (A : Around) (outer : List Env) (s : Shared) (H : Hp) (E : XK) (W0 : Wd stg) (EX : Exn → stg.G → Prop), Room k (A.deeper (PyProof.Rows.envOfC qual (defScope st) s.heap.objs.size f cdv)) → A.guards = some [] →
      TakesD (M := stg) ⟨cxOf (L2N.CX P w) P w K mg base N qual (defScope st) f cdv A outer s H E, W0, xk EX, W0⟩ → DSs (M := stg) ⟨cxOf (L2N.CX P w) P w K mg base N qual (defScope st) f cdv A outer s H E, W0, xk EX, W0⟩ (defBody st) (wb EX))
    (hpure : ∀ (ds : List D) (g : Nat) (q : D → Nat → Prop) (ex : Exn → Nat → Prop), ds.length = ps.length → sp ds g q ex → wb ex (kEndS q) (startD N ds) g) :
    FnG P w K mg base (k + 1) f fd ps (liftSp K mg ps.length sp) := by
  refine fng_of F Sc (fun vs H Q E h => ?_) (fun cdv A outer s H vs Q E hr hgd h => ?_)
  · obtain ⟨W, ds, q, ex, _, _, r, hl, _⟩ := h
    rw [r.length, hl]
  · obtain ⟨W, ds, q, ex, rfl, ok, r, hl, hsp, hQ, hE⟩ := h
    have tk : TakesD (M := stg) ⟨cxOf (L2N.CX P w) P w K mg base N qual (defScope st) f cdv A outer s W.H E, W, xk ex, W⟩ := fun u s' x =>
      L2N.takes_of (X := cxOf (L2N.CX P w) P w K mg base N qual (defScope st) f cdv A outer s W.H E) rfl rfl rfl rfl u s' (by
        obtain ⟨a, B, sI, pins, σ, H, cls, d, e, I, nb, up, sky, na, os, ag, x, ρ, W', z1, z2, z3, z4⟩ := x
        exact ⟨a, B, sI, pins, σ, H, cls, d, e, I, nb, up, sky, na, os, ag, hE _ _ _ ⟨x, W', z1, z2.go, z2.ok, z3, z4⟩⟩)
    refine ⟨_, pss_tOf, ?_⟩
    refine (hbody cdv A outer s W.H E W ex hr hgd tk).run _ _ W (kEndS q) _ (sat_start ok rfl rfl r) ⟨fun σ' ρ' W' g S' h => ?_, fun v d W' g k r h => ?_, fun _ _ _ _ _ h => h.elim, fun _ _ _ _ _ h => h.elim⟩ (hpure ds W.g q ex hl hsp)
    · obtain ⟨n, hn, h⟩ := h
      exact hQ .non .non ({ W' with g := n } : Wd stg) (S'.go.trans (go_more (n := n))) (wok_more S'.ok hn) .non h
    · obtain ⟨n, hn, h⟩ := h
      exact hQ v d ({ W' with g := n } : Wd stg) (g.trans (go_more (n := n))) (wok_more k hn) r h
theorem wk_rng {K : PySem.W.Frag} (lo : Int) (n : Nat) : WK K W (Itr lo n) ((List.range n).map fun (i : Nat) => D.int (lo + i)) where
  go := fun i W1 d g k e => by
    rw [List.getElem?_map] at e
    by_cases hi : i < n
    · rw [List.getElem?_range hi] at e
      cases e
      refine ⟨hi, fun x H' y => ?_⟩
      obtain ⟨rfl, rfl⟩ := y
      exact ⟨W1, rfl, Go.refl _, k, rfl, .int _⟩
    · rw [List.getElem?_eq_none (by simpa using hi)] at e
      cases e
  stop := fun i W1 g k e => by
    have := List.getElem?_eq_none_iff.mp e
    rw [List.length_map, List.length_range] at this
    exact this
def rngL (lo hi : Int) : List D := (List.range (hi - lo).toNat).map fun (i : Nat) => D.int (lo + i)
@[simp] def wRng1 (wa : EW M) : IW M := fun ρ g q => wa ρ g fun d g' => asI d fun j => -(2 ^ 62) ≤ j ∧ j < 2 ^ 62 ∧ q (rngL 0 j) g'
theorem di_range1 {tg a : Expr} {wa : EW M} (hm : C.X.mg "range" = none) (ha : DE C a wa) (hg : Gl C.X "range" := by rfl) (hs : starEach [a] C.X.env = [(false, eval a C.X.env)] := by rfl) (hs2 : starEach [a] C.X.env = (false, eval a C.X.env) :: starEach [] C.X.env := by rfl) :
    DI C tg (.Call (.Name "range" p) [a] [] pos) (wRng1 wa) := ⟨fun σ ρ W R q S hR hw => iOf_of (pi_range1 hg hm (pa_cons pe_tOf pa_nil hs2) hs) (ha.run σ ρ W _ _ S (fun v d W1 g1 k1 r1 q1 => by
  cases d with
  | int j =>
    cases r1
    refine ⟨j, rfl, q1.1, q1.2.1, ?_⟩
    have e : rngL 0 j = (List.range j.toNat).map fun (i : Nat) => D.int (0 + i) := by unfold rngL; rw [Int.sub_zero]
    exact hR _ _ W1 g1 k1 (e ▸ wk_rng 0 j.toNat) q1.2.2
  | _ => exact q1.elim) hw)⟩
@[simp] def wRng2 (wa wb : EW M) : IW M := fun ρ g q => wa ρ g fun d g1 => wb ρ g1 fun e g2 => asI d fun i => asI e fun j => (-(2 ^ 62) ≤ i ∧ i < 2 ^ 62 ∧ -(2 ^ 62) ≤ j ∧ j < 2 ^ 62) ∧ q (rngL i j) g2
theorem di_range2 {tg a b : Expr} {wa wb : EW M} (hm : C.X.mg "range" = none) (ha : DE C a wa) (hb : DE C b wb) (hg : Gl C.X "range" := by rfl) (hs : starEach [a, b] C.X.env = [(false, eval a C.X.env), (false, eval b C.X.env)] := by rfl) (hs2 : starEach [b] C.X.env = [(false, eval b C.X.env)] := by rfl)
    (h1 : starEach [a, b] C.X.env = (false, eval a C.X.env) :: starEach [b] C.X.env := by rfl) (h2 : starEach [b] C.X.env = (false, eval b C.X.env) :: starEach [] C.X.env := by rfl) :
    DI C tg (.Call (.Name "range" p) [a, b] [] pos) (wRng2 wa wb) := ⟨fun σ ρ W R q S hR hw => iOf_of (pi_range2 hg hm (pa_cons pe_tOf (pa_cons pe_tOf pa_nil h2) h1) hs hs2) (ha.run σ ρ W _ _ S (fun v d W1 g1 k1 r1 q1 => by
  refine hb.run σ ρ W1 _ _ (S.step g1 k1) (fun u d2 W2 g2 k2 r2 q2 => ?_) q1
  cases d with
  | int i =>
    cases d2 with
    | int j =>
      cases r1
      cases r2
      exact ⟨i, j, rfl, q2.1, hR _ _ W2 (g1.trans g2) k2 (wk_rng i (j - i).toNat) q2.2⟩
    | _ => exact q2.elim
  | _ => exact q2.elim) hw)⟩

/-- a, b = x, y with two plain local names -/
@[simp] def wPar (i j : Nat) (wx wy : VW M) : SW M := fun k ρ g => wx ρ g fun s g1 => wy ρ g1 fun t g2 => k.nx ((ρ.set i s).set j t) g2
theorem ds_par {i j : Nat} {x y : Str} {a b : Expr} {wx wy : VW M} {px py pt : Pos} {kt k2 : Nat} {pt2 : Pos} (hc : C.X.calm = true) (hN : C.X.N.Nodup) (hi : C.X.N[i]? = some x) (hj : C.X.N[j]? = some y) (hij : i ≠ j)
    (hx : C.X.env.scope.names.lookup x = some .local) (hy : C.X.env.scope.names.lookup y = some .local) (ha : DV C a wx) (hb : DV C b wy)
    (hw : swappedStores [.Tuple [.Name x px, .Name y py] kt pt] (.Tuple [a, b] k2 pt2) C.X.env = pure (some [x, y]) := by rfl) (hs : swapsWithSole [.Tuple [.Name x px, .Name y py] kt pt] (.Tuple [a, b] k2 pt2) pos.line C.X.env = pure false := by rfl)
    (h1 : starEach [a, b] C.X.env = (false, eval a C.X.env) :: starEach [b] C.X.env := by rfl) (h2 : starEach [b] C.X.env = (false, eval b C.X.env) :: starEach [] C.X.env := by rfl) :
    DS C (.Assign [.Tuple [.Name x px, .Name y py] kt pt] (.Tuple [a, b] k2 pt2) pos) (wPar i j wx wy) := ⟨fun σ ρ W k E S l h => by
  refine tsOf_of (ps_par hc hN hi hj hij hx hy (pa_cons pe_tOf (pa_cons pe_tOf pa_nil h2) h1) hw hs) ?_
  refine ha.run σ ρ W _ _ S (fun v s W1 g1 k1 f1 q1 => ?_) h
  refine hb.run σ ρ W1 _ _ (S.step g1 k1) (fun u t W2 g2 k2 f2 q2 => ?_) q1
  refine ⟨v, u, rfl, ?_⟩
  have S2 := S.step (g1.trans g2) k2
  have o1 : SlOk C W2 s (some v) := (slOk_fresh S g1 f1).step g2
  have o2 : SlOk C W2 t (some u) := slOk_fresh (S.step g1 k1) g2 f2
  have T1 := S2.puts o1 i fun p w1 e1 m t' w2 _ a1 a2 => own_live S w2 a1 a2 (fresh_dead f1 w1 e1)
  have T2 := T1.puts o2 j fun p w1 e1 m t' w2 _ a1 a2 => by
    have dead := fresh_dead f2 w1 e1
    by_cases hm : i = m
    · subst hm
      have hlt : i < ρ.length := by
        have := (List.getElem?_eq_some_iff.mp a1).1
        rwa [List.length_set] at this
      rw [List.getElem?_set_self hlt] at a1
      rw [List.getElem?_set_self (by rw [S.len]; exact hlt)] at a2
      cases a1
      cases a2
      exact fresh_live f1 w2 rfl dead
    · rw [List.getElem?_set_ne hm] at a1 a2
      exact g1.live _ (own_live S w2 a1 a2) dead
  exact l.nx _ _ W2 (g1.trans g2).s T2 q2⟩
end
end DL
set_option Elab.async false
set_option linter.all false
set_option maxRecDepth 100000
set_option maxHeartbeats 1000000
namespace DL
open PySem
section
variable {prog : Program} {w : World} {A : Around} {E : Value → Shared → Prop} {s : Shared}
def Slot0 (v : Value) : Prop := v = .none ∨ ∃ T : Nat, v = rawInt T
abbrev enObj (s0 : Value) (f : Bool) (it : Addr) (i : Int) (old : Value) : Obj := { cls := .type "enumerate", dict := none, data := .fields #[s0, .bool f, .ref it, rawInt i, .none, old], slots := #[] }
abbrev ziObj (s0 : Value) (f : Bool) (TI TO : Addr) : Obj := { cls := .type "zip", dict := none, data := .fields #[s0, .bool f, .bool false, .ref TI, .ref TO], slots := #[] }
def EnA (h : Heap) (e it : Addr) (i : Int) : Prop := ∃ s0 f old, Slot0 s0 ∧ h.get? e = some (enObj s0 f it i old)
def ZiA (h : Heap) (z TI TO : Addr) : Prop := ∃ s0 f, Slot0 s0 ∧ h.get? z = some (ziObj s0 f TI TO)
theorem alive_any {a : Addr} {Q : Option Obj → Shared → Prop} (h : Q (s.heap.get? a) s) : wpAny (model prog w) A (loadIfAlive a) Q E s := fun _ _ _ => h
theorem free_en {e it : Addr} {s0 old : Value} {f : Bool} {i : Int} {Q : Bool → Shared → Prop} (he : s.heap.get? e = some (enObj s0 f it i old)) (hs : Slot0 s0) (h1 : Q true s)
    (h2 : ∀ h' f', h'.get? e = some (enObj s0 f' it i old) → Heap.SameBut e s.heap h' → Q false { s with heap := h' }) : wpAny (model prog w) A (Builtin.SmallTypes.ownedTupleIsFree (.ref e)) Q E s := by
  unfold Builtin.SmallTypes.ownedTupleIsFree
  refine wpAny_bind (wpAny_field he rfl (x := s0) rfl ?_)
  rcases hs with rfl | ⟨T, rfl⟩
  · exact wpAny_pure h1
  · show wpAny _ _ (loadIfAlive ((T : Int).toNat) >>= _) _ _ _
    rw [Int.toNat_natCast]
    refine wpAny_bind (alive_any ?_)
    cases s.heap.get? T with
    | none => exact wpAny_pure h1
    | some oT =>
      simp only [Option.isNone_some, Bool.false_eq_true, if_false]
      refine wpAny_bind (wpAny_field he rfl (x := .bool f) rfl ?_)
      cases f with
      | true =>
        rw [if_neg (show ¬ ((Value.bool true != Value.bool true) = true) from Bool.false_ne_true)]
        exact wpAny_pure (h2 s.heap true he (Heap.SameBut.refl _ _))
      | false =>
        rw [if_pos (show (Value.bool false != Value.bool true) = true from rfl)]
        exact wpAny_bind (wpAny_setField_rec he (by simp) fun h₁ hz₁ hs₁ => wpAny_pure (h2 h₁ true hz₁ hs₁))
theorem free_zi {z TI TO : Addr} {s0 : Value} {f : Bool} {Q : Bool → Shared → Prop} (he : s.heap.get? z = some (ziObj s0 f TI TO)) (hs : Slot0 s0) (h1 : Q true s)
    (h2 : ∀ h' f', h'.get? z = some (ziObj s0 f' TI TO) → Heap.SameBut z s.heap h' → Q false { s with heap := h' }) : wpAny (model prog w) A (Builtin.SmallTypes.ownedTupleIsFree (.ref z)) Q E s := by
  unfold Builtin.SmallTypes.ownedTupleIsFree
  refine wpAny_bind (wpAny_field he rfl (x := s0) rfl ?_)
  rcases hs with rfl | ⟨T, rfl⟩
  · exact wpAny_pure h1
  · show wpAny _ _ (loadIfAlive ((T : Int).toNat) >>= _) _ _ _
    rw [Int.toNat_natCast]
    refine wpAny_bind (alive_any ?_)
    cases s.heap.get? T with
    | none => exact wpAny_pure h1
    | some oT =>
      simp only [Option.isNone_some, Bool.false_eq_true, if_false]
      refine wpAny_bind (wpAny_field he rfl (x := .bool f) rfl ?_)
      cases f with
      | true =>
        rw [if_neg (show ¬ ((Value.bool true != Value.bool true) = true) from Bool.false_ne_true)]
        exact wpAny_pure (h2 s.heap true he (Heap.SameBut.refl _ _))
      | false =>
        rw [if_pos (show (Value.bool false != Value.bool true) = true from rfl)]
        exact wpAny_bind (wpAny_setField_rec he (by simp) fun h₁ hz₁ hs₁ => wpAny_pure (h2 h₁ true hz₁ hs₁))
/-- what the draws of an iterator are, which may lay new things -/
structure Dr (prog : Program) (w : World) (A : Around) (it : Addr) (fp wr : List Addr) (n : Nat) (P : Nat → Value → Nat → Nat → Heap → Prop) (St : Nat → Heap → Prop) : Prop where
  sub : ∀ b ∈ wr, b ∈ fp
  mem : it ∈ wr
  live : ∀ i h, St i h → ∀ b ∈ wr, ∃ o, h.get? b = some o
  frame : ∀ i h h', St i h → (∀ b ∈ fp, ∀ o, h.get? b = some o → h'.get? b = some o) → St i h'
  grow : ∀ i x N Z h h', P i x N Z h → (∀ b o, N ≤ b → h.get? b = some o → h'.get? b = some o) → P i x N Z h'
  item : ∀ i (s : Shared) (Q : Value → Shared → Prop) (E : Value → Shared → Prop), i < n → St i s.heap →
    (∀ x h' tk, P i x s.heap.objs.size h'.objs.size h' → St (i + 1) h' → s.heap.objs.size ≤ h'.objs.size → (∀ b o, b ∉ wr → s.heap.get? b = some o → h'.get? b = some o) → Q x { s with heap := h', toks := tk }) →
    wpAny (model prog w) A (Builtin.SmallTypes.nextOf (.ref it)) Q E s
  done : ∀ (s : Shared) (Q : Value → Shared → Prop) (E : Value → Shared → Prop), St n s.heap →
    (∀ h' tk e, (∀ b o, b ∉ wr → s.heap.get? b = some o → h'.get? b = some o) → (∃ o, h'.get? e = some o ∧ o.cls = .type "StopIteration") → E (.ref e) { s with heap := h', toks := tk }) →
    wpAny (model prog w) A (Builtin.SmallTypes.nextOf (.ref it)) Q E s
theorem Dr.of {it : Addr} {fp : List Addr} {n : Nat} {P : Nat → Value → Prop} {St : Nat → Heap → Prop} (D : Draws prog w A it fp n P St) (hm : it ∈ fp) : Dr prog w A it fp [it] n (fun i x _ _ _ => P i x) St where
  sub := fun b hb => by rw [List.mem_singleton.mp hb]; exact hm
  mem := List.mem_singleton_self _
  live := fun i h st b hb => by rw [List.mem_singleton.mp hb]; exact D.live i h st
  frame := D.frame
  grow := fun _ _ _ _ _ _ h _ => h
  item := fun i s Q E hi st hQ => D.item i s Q E hi st fun x h' tk p st' sb => hQ x h' tk p st' (by rw [sb.1]; exact Nat.le_refl _) fun b o hb e => sb.extBut b o (fun q => hb (by simp [q])) e
  done := fun s Q E st hE => D.done s Q E st fun h' e k he => hE h' s.toks e (fun b o hb x => k b o (fun q => hb (by simp [q])) x) he

theorem en_item {e it : Addr} {fp wr : List Addr} {n i : Nat} {P : Nat → Value → Nat → Nat → Heap → Prop} {St : Nat → Heap → Prop} {Q : Value → Shared → Prop}
    (D : Dr prog w A it fp wr n P St) (he : EnA s.heap e it (i : Nat)) (hst : St i s.heap) (hlt : i < n) (hef : e ∉ fp)
    (hQ : ∀ x h' tk T t Z, P i x s.heap.objs.size Z h' → s.heap.objs.size ≤ Z → Z ≤ T → T < h'.objs.size → EnA h' e it ((i + 1 : Nat) : Int) → St (i + 1) h' →
      h'.get? T = some { cls := .type "tuple", data := .seq #[.int (i : Nat) t, x] } →
      (∀ b o, b ≠ e → b ∉ wr → s.heap.get? b = some o → h'.get? b = some o) → Q (.ref T) { s with heap := h', toks := tk }) :
    wpAny (model prog w) A (Builtin.«enumerate.__next__» ⟨[.ref e], []⟩) (fun fin s' => ∃ v, fin = .done (.ret v) ∧ Q v s') E s := by
  have hew : e ∉ wr := fun q => hef (D.sub e q)
  obtain ⟨s0, f, old, hs0, he⟩ := he
  obtain ⟨hp, g, d, tk₀, os⟩ := s
  show wpAny _ _ (field (.ref e) 2 >>= _) _ _ _
  refine wpAny_bind (wpAny_field he rfl (x := .ref it) rfl ?_)
  refine wpAny_bind (D.item i _ _ _ hlt hst fun x h₁ tk hPx hit₁ hle₁ hk₁ => ?_)
  replace hk₁ : ∀ b o, b ∉ wr → hp.get? b = some o → h₁.get? b = some o := hk₁
  replace hle₁ : hp.objs.size ≤ h₁.objs.size := hle₁
  have he₁ : h₁.get? e = some (enObj s0 f it i old) := hk₁ e _ hew he
  show wpAny _ _ (field (.ref e) 3 >>= _) _ _ ⟨h₁, g, d, tk, os⟩
  refine wpAny_bind (wpAny_field he₁ rfl (x := rawInt i) rfl ?_)
  show wpAny _ _ (field (.ref e) 4 >>= _) _ _ ⟨h₁, g, d, tk, os⟩
  refine wpAny_bind (wpAny_field he₁ rfl (x := .none) rfl ?_)
  show wpAny _ _ (mkInt i >>= _) _ _ ⟨h₁, g, d, tk, os⟩
  refine wpAny_bind (wpAny_mkInt ?_)
  show wpAny _ _ (setField (.ref e) 3 (rawInt ((i : Int) + 1)) >>= _) _ _ ⟨h₁, g, d, tk + 1, os⟩
  refine wpAny_bind (wpAny_setField_rec he₁ (by simp) fun h₂ he₂ hs₂ => ?_)
  replace hs₂ : Heap.SameBut e h₁ h₂ := hs₂
  replace he₂ : h₂.get? e = some (enObj s0 f it ((i : Int) + 1) old) := he₂
  show wpAny _ _ (setField (.ref e) 4 .none >>= _) _ _ ⟨h₂, g, d, tk + 1, os⟩
  refine wpAny_bind (wpAny_setField_rec he₂ (by simp) fun h₃ he₃ hs₃ => ?_)
  replace hs₃ : Heap.SameBut e h₂ h₃ := hs₃
  replace he₃ : h₃.get? e = some (enObj s0 f it ((i : Int) + 1) old) := he₃
  show wpAny _ _ (newTuple [.int i tk, x] >>= _) _ _ ⟨h₃, g, d, tk + 1, os⟩
  refine wpAny_bind (wpAny_newTuple ?_)
  have he₄ : (h₃.push { cls := .type "tuple", data := .seq #[.int i tk, x] }).get? e = some (enObj s0 f it ((i : Int) + 1) old) := Heap.get?_push_of_some _ he₃
  have hsz : h₃.objs.size = h₁.objs.size := by rw [hs₃.1, hs₂.1]
  have hel : e < h₁.objs.size := Heap.lt_size he₁
  have help : e < hp.objs.size := Heap.lt_size he
  have e1 : ((i + 1 : Nat) : Int) = (i : Int) + 1 := by omega
  generalize hh₄ : h₃.push { cls := .type "tuple", data := .seq #[.int i tk, x] } = h₄ at he₄
  have ht₄ : h₄.get? h₁.objs.size = some { cls := .type "tuple", data := .seq #[.int i tk, x] } := by rw [← hh₄, ← hsz]; exact Heap.get?_push_size _ rfl
  have hz₄ : h₄.objs.size = h₁.objs.size + 1 := by rw [← hh₄, Heap.size_push, hsz]
  have hk₄ : ∀ b o, b ≠ e → h₁.get? b = some o → h₄.get? b = some o := fun b o hbe hb => by
    rw [← hh₄]; exact Heap.get?_push_of_some _ (hs₃.extBut b o hbe (hs₂.extBut b o hbe hb))
  have fin : ∀ h₅ (tk5 : Nat), EnA h₅ e it ((i : Int) + 1) → h₅.objs.size = h₄.objs.size → (∀ b o, b ≠ e → h₄.get? b = some o → h₅.get? b = some o) → Q (.ref h₁.objs.size) ⟨h₅, g, d, tk5, os⟩ := fun h₅ tk5 en z5 k5 => by
    refine hQ x h₅ tk5 h₁.objs.size tk h₁.objs.size ?_ hle₁ (Nat.le_refl _) (by rw [z5, hz₄]; exact Nat.lt_succ_self _) (by rw [e1]; exact en) ?_ (k5 _ _ (Nat.ne_of_gt hel) ht₄) ?_
    · exact D.grow _ _ _ _ _ _ hPx fun b o hb q => k5 b o (fun z => absurd (z ▸ hb) (Nat.not_le_of_lt help)) (hk₄ b o (fun z => absurd (z ▸ hb) (Nat.not_le_of_lt help)) q)
    · exact D.frame _ _ _ hit₁ fun b hb o y => k5 b o (fun q => hef (q ▸ hb)) (hk₄ b o (fun q => hef (q ▸ hb)) y)
    · exact fun b o hbe hbw y => k5 b o hbe (hk₄ b o hbe (hk₁ b o hbw y))
  show wpAny _ _ (Builtin.SmallTypes.ownedTupleIsFree (.ref e) >>= _) _ _ ⟨h₄, g, d, tk + 1, os⟩
  rw [hsz]
  refine wpAny_bind (free_en (s := ⟨h₄, g, d, tk + 1, os⟩) he₄ hs0 ?_ fun h₅ f' he₅ hs₅ => ?_)
  · simp only [if_true]
    refine wpAny_bind (wpAny_rule ?_)
    refine wpAny_bind (wpAny_field he₄ rfl (x := old) rfl ?_)
    refine wpAny_bind (wpAny_setField_rec he₄ (by simp) fun h₅ he₅ hs₅ => ?_)
    replace hs₅ : Heap.SameBut e h₄ h₅ := hs₅
    replace he₅ : h₅.get? e = some (enObj s0 f it ((i : Int) + 1) x) := he₅
    show wpAny _ _ (Builtin.SmallTypes.ownedTupleHandOut (.ref e) (.ref h₁.objs.size) >>= _) _ _ ⟨h₅, g, d, tk + 1, os⟩
    refine wpAny_bind ?_
    unfold Builtin.SmallTypes.ownedTupleHandOut
    refine wpAny_bind (wpAny_setField_rec he₅ (by simp) fun h₆ he₆ hs₆ => ?_)
    replace hs₆ : Heap.SameBut e h₅ h₆ := hs₆
    replace he₆ : h₆.get? e = some (enObj (rawInt h₁.objs.size) f it ((i : Int) + 1) x) := he₆
    refine wpAny_setField_rec he₆ (by simp) fun h₇ he₇ hs₇ => ?_
    replace hs₇ : Heap.SameBut e h₆ h₇ := hs₇
    replace he₇ : h₇.get? e = some (enObj (rawInt h₁.objs.size) false it ((i : Int) + 1) x) := he₇
    refine wpAny_bind (wpAny_letGo (wpAny_pure ⟨_, rfl, fin h₇ (tk + 1) ⟨_, _, _, .inr ⟨_, rfl⟩, he₇⟩ (by rw [hs₇.1, hs₆.1, hs₅.1]) fun b o hbe hb => hs₇.extBut b o hbe (hs₆.extBut b o hbe (hs₅.extBut b o hbe hb))⟩))
  · simp only [Bool.false_eq_true, if_false]
    exact wpAny_pure ⟨_, rfl, fin h₅ (tk + 1) ⟨_, _, _, hs0, he₅⟩ hs₅.1 fun b o hbe hb => hs₅.extBut b o hbe hb⟩
theorem en_pyNext_item {e it : Addr} {fp wr : List Addr} {n i : Nat} {P : Nat → Value → Nat → Nat → Heap → Prop} {St : Nat → Heap → Prop} {Q : Option Value → Shared → Prop}
    (D : Dr prog w A.in1 it fp wr n P St) (he : EnA s.heap e it (i : Nat)) (hst : St i s.heap) (hlt : i < n) (hef : e ∉ fp)
    (hQ : ∀ x h' tk T t Z, P i x s.heap.objs.size Z h' → s.heap.objs.size ≤ Z → Z ≤ T → T < h'.objs.size → EnA h' e it ((i + 1 : Nat) : Int) → St (i + 1) h' →
      h'.get? T = some { cls := .type "tuple", data := .seq #[.int (i : Nat) t, x] } →
      (∀ b o, b ≠ e → b ∉ wr → s.heap.get? b = some o → h'.get? b = some o) → Q (some (.ref T)) { s with heap := h', toks := tk }) :
    wpAny (model prog w) A (pyNext (.ref e)) Q E s := by
  have hT : s.TypeIs (.ref e) "enumerate" := by obtain ⟨_, _, _, _, q⟩ := he; exact ⟨_, q, rfl⟩
  unfold pyNext
  exact wpAny_bind (wpAny_attempt (wpAny_callSpecial?_slot (name := Str.ofString "__next__") hT F.slot_enumerate_next
    (wpAny_call_entry F.slot_enumerate_next hT F.entry_enumerate_next
      (en_item D he hst hlt hef fun x h' tk T t Z a1 a2 a3 a4 a5 a6 a7 a8 => wpAny_pure (hQ x h' tk T t Z a1 a2 a3 a4 a5 a6 a7 a8)) (F.args_enumerate_next_1 _))))
theorem en_pyNext_end {e it : Addr} {fp wr : List Addr} {n : Nat} {P : Nat → Value → Nat → Nat → Heap → Prop} {St : Nat → Heap → Prop} {i : Int} {Q : Option Value → Shared → Prop}
    (D : Dr prog w A.in1 it fp wr n P St) (he : EnA s.heap e it i) (hst : St n s.heap)
    (hQ : ∀ h' tk, (∀ b o, b ∉ wr → s.heap.get? b = some o → h'.get? b = some o) → Q none { s with heap := h', toks := tk }) : wpAny (model prog w) A (pyNext (.ref e)) Q E s := by
  obtain ⟨s0, f, old, hs0, he⟩ := he
  have hT : s.TypeIs (.ref e) "enumerate" := ⟨_, he, rfl⟩
  unfold pyNext
  refine wpAny_bind (wpAny_attempt (wpAny_callSpecial?_slot (name := Str.ofString "__next__") hT F.slot_enumerate_next
    (wpAny_call_entry F.slot_enumerate_next hT F.entry_enumerate_next ?_ (F.args_enumerate_next_1 _))))
  show wpAny _ _ (field (.ref e) 2 >>= _) _ _ _
  refine wpAny_bind (wpAny_field he rfl (x := .ref it) rfl ?_)
  refine wpAny_bind (D.done _ _ _ hst fun h' tk x he' hx' => ?_)
  obtain ⟨o, ho, hc⟩ := hx'
  refine wpAny_bind (wpAny_isInstance (T := "StopIteration") (b := true) ⟨o, ho, hc⟩ isSubtype_stop ?_)
  exact wpAny_pure (hQ _ _ he')
theorem en_go {tg : Expr} {e it : Addr} {u : Value} {i : Int} {Q : Unit → Shared → Prop} (he : EnA s.heap e it i)
    (hQ : ∀ h', EnA h' e it i → Heap.SameBut e s.heap h' → Q () { s with heap := h' }) : wpAny (model prog w) A (letOwnedTupleGo tg (.ref e) u) Q E s := by
  have hk : Q () s := hQ s.heap he (Heap.SameBut.refl _ _)
  obtain ⟨s0, f, old, hs0, he⟩ := he
  have go : ∀ a : Addr, wpAny (model prog w) A (do
      let o ← load e
      match o.cls, o.data with
      | .type n, .fields vs =>
        if ["enumerate", "zip", "dict_itemiterator", "dict_reverseitemiterator", "odict_iterator", "itertools.zip_longest", "itertools.pairwise"].contains n && vs[0]? == some (rawInt a) then
          rule "for.unpacks-the-owned-tuple"
          updateField e 0 .none
      | _, _ => pure ()) Q E s := by
    intro a
    refine wpAny_bind (wpAny_load he ?_)
    show wpAny _ A (if (_ && (some s0 == some (rawInt a))) = true then _ else _) Q E s
    split
    · refine wpAny_bind (wpAny_rule ?_)
      show wpAny _ A (setField (.ref e) 0 .none) Q E s
      exact wpAny_setField_rec he (by simp) fun h' he' hs' => hQ h' ⟨_, _, _, .inl rfl, he'⟩ hs'
    · exact wpAny_pure hk
  unfold letOwnedTupleGo
  cases tg <;> first | exact wpAny_pure hk | (cases u <;> first | exact wpAny_pure hk | exact go _)
end
section
variable {prog : Program} {w : World} {A : Around} {E : Value → Shared → Prop} {s : Shared} {z TI TO i1 i2 : Addr} {fp1 fp2 : List Addr} {n1 n2 i : Nat} {P1 P2 : Nat → Value → Prop} {St1 St2 : Nat → Heap → Prop} {a1 a2 : Value}
def OutZ (h : Heap) (TO : Addr) : Prop := ∃ a1 a2, IsTupOf2 h TO a1 a2
theorem zi_item {Q : Value → Shared → Prop} (S : ZipSep2 z TI TO i1 i2 fp1 fp2) (D1 : Draws prog w A i1 fp1 n1 P1 St1) (D2 : Draws prog w A i2 fp2 n2 P2 St2)
    (hz : ZiA s.heap z TI TO) (hTI : IsTupOf2 s.heap TI (.ref i1) (.ref i2)) (hTO : OutZ s.heap TO) (st1 : St1 i s.heap) (st2 : St2 i s.heap) (hlt1 : i < n1) (hlt2 : i < n2)
    (hQ : ∀ x1 x2 h' tk, P1 i x1 → P2 i x2 → ZiA h' z TI TO → OutZ h' TO → St1 (i + 1) h' → St2 (i + 1) h' → IsTupOf2 h' s.heap.objs.size x1 x2 → h'.objs.size = s.heap.objs.size + 1 →
      (∀ c o, c ≠ z → c ≠ TO → c ≠ i1 → c ≠ i2 → s.heap.get? c = some o → h'.get? c = some o) → Q (.ref s.heap.objs.size) { s with heap := h', toks := tk }) :
    wpAny (model prog w) A (Builtin.«zip.__next__» ⟨[.ref z], []⟩) (fun fin s' => ∃ v, fin = .done (.ret v) ∧ Q v s') E s := by
  obtain ⟨s0, f, hs0, hz⟩ := hz
  obtain ⟨a1, a2, hTO⟩ := hTO
  obtain ⟨hp, g, d, tk0, os⟩ := s
  show wpAny _ _ (field (.ref z) 2 >>= _) _ _ _
  refine wpAny_bind (wpAny_field hz rfl (x := .bool false) rfl ?_)
  show wpAny _ _ (field (.ref z) 3 >>= _) _ _ _
  refine wpAny_bind (wpAny_field hz rfl (x := .ref TI) rfl ?_)
  refine wpAny_bind (wpAny_seqItems hTI rfl ?_)
  show wpAny _ _ (Builtin.SmallTypes.ownedTupleIsFree (.ref z) >>= _) _ _ _
  refine wpAny_bind (free_zi (s := ⟨hp, g, d, tk0, os⟩) hz hs0 ?_ fun g0 f' hz0 hs0' => ?_)
  · simp only [if_true]
    refine wpAny_bind (wpAny_rule ?_)
    refine wpAny_bind (wpAny_field hz rfl (x := .ref TO) rfl ?_)
    refine wpAny_bind (wpAny_setField_rec hz (by simp) fun g0 hz0 hs0 => ?_)
    replace hz0 : g0.get? z = some (ziObj .ellipsis f TI TO) := hz0
    replace hs0 : Heap.SameBut z hp g0 := hs0
    refine wpAny_bind ?_
    simp only [List.zipIdx_cons, List.zipIdx_nil, List.forIn_cons, List.forIn_nil]
    refine wpAny_bind (wpAny_bind (wpAny_onRaise ?_))
    show wpAny _ _ (Builtin.SmallTypes.nextOf (.ref i1) >>= _) _ _ ⟨g0, g, d, tk0, os⟩
    refine wpAny_bind (D1.item i _ _ _ hlt1 (D1.over st1 hs0 S.zf1) fun x1 p1 tk1 hx1 sn1 hp1 => wpAny_pure ?_)
    replace hp1 : Heap.SameBut i1 g0 p1 := hp1
    have hU1 : IsTupOf2 p1 TO a1 a2 := hp1.extBut _ _ S.Ti1 (hs0.extBut _ _ S.TOz hTO)
    refine wpAny_bind (wpAny_seqItems (s := ⟨p1, g, d, tk1, os⟩) hU1 rfl ?_)
    refine wpAny_bind (updateSeq_IsTupOf2 (s := ⟨p1, g, d, tk1, os⟩) hU1 fun g1 hT1 hs1 => ?_)
    replace hT1 : IsTupOf2 g1 TO x1 a2 := hT1
    replace hs1 : Heap.SameBut TO p1 g1 := hs1
    refine wpAny_bind (wpAny_letGo (wpAny_pure ?_))
    refine wpAny_bind (wpAny_bind (wpAny_onRaise ?_))
    show wpAny _ _ (Builtin.SmallTypes.nextOf (.ref i2) >>= _) _ _ ⟨g1, g, d, tk1, os⟩
    refine wpAny_bind (D2.item i _ _ _ hlt2 (D2.over (D2.over (D2.over st2 hs0 S.zf2) hp1 S.sep1_2) hs1 S.Tf2) fun x2 p2 tk2 hx2 sn2 hp2 => wpAny_pure ?_)
    replace hp2 : Heap.SameBut i2 g1 p2 := hp2
    have hU2 : IsTupOf2 p2 TO x1 a2 := hp2.extBut _ _ S.Ti2 hT1
    refine wpAny_bind (wpAny_seqItems (s := ⟨p2, g, d, tk2, os⟩) hU2 rfl ?_)
    refine wpAny_bind (updateSeq_IsTupOf2 (s := ⟨p2, g, d, tk2, os⟩) hU2 fun g2 hT2 hs2 => ?_)
    replace hT2 : IsTupOf2 g2 TO x1 x2 := hT2
    replace hs2 : Heap.SameBut TO p2 g2 := hs2
    refine wpAny_bind (wpAny_letGo (wpAny_pure (wpAny_pure ?_)))
    refine wpAny_bind (wpAny_seqItems (s := ⟨g2, g, d, tk2, os⟩) hT2 rfl ?_)
    refine wpAny_bind (wpAny_newTuple ?_)
    have hsz : g2.objs.size = hp.objs.size := by rw [hs2.1, hp2.1, hs1.1, hp1.1, hs0.1]
    have hzz : g2.get? z = some (ziObj .ellipsis f TI TO) := (hs2.extBut _ _ S.TOz.symm (hp2.extBut _ _ S.zi2 (hs1.extBut _ _ S.TOz.symm (hp1.extBut _ _ S.zi1 hz0))))
    have hkk : ∀ c o, c ≠ z → c ≠ TO → c ≠ i1 → c ≠ i2 → hp.get? c = some o → g2.get? c = some o := fun c o cz cT c1 c2 e =>
      (hs2.extBut _ _ cT (hp2.extBut _ _ c2 (hs1.extBut _ _ cT (hp1.extBut _ _ c1 (hs0.extBut _ _ cz e)))))
    have hj1 : St1 (i + 1) g2 := (D1.over (D1.over (D1.over sn1 hs1 S.Tf1) hp2 S.sep2_1) hs2 S.Tf1)
    have hj2 : St2 (i + 1) g2 := (D2.over sn2 hs2 S.Tf2)
    have hzlt : z < g2.objs.size := Heap.lt_size hzz
    show wpAny _ _ (Builtin.SmallTypes.ownedTupleHandOut (.ref z) (.ref g2.objs.size) >>= _) _ _ ⟨g2.push { cls := .type "tuple", data := .seq #[x1, x2] }, g, d, tk2, os⟩
    refine wpAny_bind ?_
    unfold Builtin.SmallTypes.ownedTupleHandOut
    have hz₆ : (g2.push { cls := .type "tuple", data := .seq #[x1, x2] }).get? z = some (ziObj .ellipsis f TI TO) := Heap.get?_push_of_some _ hzz
    refine wpAny_bind (wpAny_setField_rec hz₆ (by simp) fun h₇ hz₇ hs₇ => ?_)
    replace hz₇ : h₇.get? z = some (ziObj (rawInt g2.objs.size) f TI TO) := hz₇
    refine wpAny_setField_rec hz₇ (by simp) fun h₈ hz₈ hs₈ => ?_
    replace hz₈ : h₈.get? z = some (ziObj (rawInt g2.objs.size) false TI TO) := hz₈
    replace hs₇ : Heap.SameBut z (g2.push { cls := .type "tuple", data := .seq #[x1, x2] }) h₇ := hs₇
    replace hs₈ : Heap.SameBut z h₇ h₈ := hs₈
    have up : ∀ c o, c ≠ z → g2.get? c = some o → h₈.get? c = some o := fun c o c1 e => hs₈.extBut _ _ c1 (hs₇.extBut _ _ c1 (Heap.get?_push_of_some _ e))
    have hT₈ : IsTupOf2 h₈ g2.objs.size x1 x2 := hs₈.extBut _ _ (Nat.ne_of_gt hzlt) (hs₇.extBut _ _ (Nat.ne_of_gt hzlt) (Heap.get?_push_size _ rfl))
    have hz8 : h₈.objs.size = g2.objs.size + 1 := by rw [hs₈.1, hs₇.1, Heap.size_push]
    rw [hsz] at hz₈ hT₈ hz8
    refine wpAny_pure ⟨_, rfl, ?_⟩
    show Q (.ref g2.objs.size) ⟨h₈, g, d, tk2, os⟩
    rw [hsz]
    exact hQ x1 x2 h₈ tk2 hx1 hx2 ⟨_, _, .inr ⟨_, rfl⟩, hz₈⟩ ⟨_, _, up _ _ S.TOz hT2⟩ (D1.frame _ _ _ hj1 fun b hb o e => up b o (fun q => S.zf1 (q ▸ hb)) e) (D2.frame _ _ _ hj2 fun b hb o e => up b o (fun q => S.zf2 (q ▸ hb)) e) hT₈ hz8 fun c o cz cT c1 c2 e => up c o cz (hkk c o cz cT c1 c2 e)
  · replace hs0' : Heap.SameBut z hp g0 := hs0'
    simp only [Bool.false_eq_true, if_false]
    refine wpAny_bind ?_
    rw [← Array.forIn_toList]
    simp only [List.forIn_cons, List.forIn_nil]
    refine wpAny_bind (wpAny_bind (wpAny_holding ?_))
    show wpAny _ _ (Builtin.SmallTypes.nextOf (.ref i1) >>= _) _ _ ⟨g0, g, d, tk0, os⟩
    refine wpAny_bind (D1.item i _ _ _ hlt1 (D1.over st1 hs0' S.zf1) fun x1 p1 tk1 hx1 sn1 hp1 => wpAny_pure ?_)
    replace hp1 : Heap.SameBut i1 g0 p1 := hp1
    refine wpAny_pure ?_
    refine wpAny_bind (wpAny_bind (wpAny_holding ?_))
    show wpAny _ _ (Builtin.SmallTypes.nextOf (.ref i2) >>= _) _ _ ⟨p1, g, d, tk1, os⟩
    refine wpAny_bind (D2.item i _ _ _ hlt2 (D2.over (D2.over st2 hs0' S.zf2) hp1 S.sep1_2) fun x2 p2 tk2 hx2 sn2 hp2 => wpAny_pure ?_)
    replace hp2 : Heap.SameBut i2 p1 p2 := hp2
    refine wpAny_pure (wpAny_pure ?_)
    show wpAny _ _ (newTuple [x1, x2] >>= _) _ _ ⟨p2, g, d, tk2, os⟩
    refine wpAny_bind (wpAny_newTuple ?_)
    have hsz : p2.objs.size = hp.objs.size := by rw [hp2.1, hp1.1, hs0'.1]
    have hz₃ : p2.get? z = some (ziObj s0 f' TI TO) := hp2.extBut _ _ S.zi2 (hp1.extBut _ _ S.zi1 hz0)
    have hk : ∀ c o, c ≠ z → c ≠ i1 → c ≠ i2 → hp.get? c = some o → p2.get? c = some o := fun c o c1 c2 c3 e => hp2.extBut _ _ c3 (hp1.extBut _ _ c2 (hs0'.extBut _ _ c1 e))
    have hj1 : St1 (i + 1) p2 := D1.over sn1 hp2 S.sep2_1
    refine wpAny_pure ⟨_, rfl, ?_⟩
    show Q (.ref p2.objs.size) ⟨p2.push { cls := .type "tuple", data := .seq #[x1, x2] }, g, d, tk2, os⟩
    have hpr : IsTupOf2 (p2.push { cls := .type "tuple", data := .seq #[x1, x2] }) p2.objs.size x1 x2 := Heap.get?_push_size _ rfl
    have hz4 : (p2.push { cls := .type "tuple", data := .seq #[x1, x2] }).objs.size = p2.objs.size + 1 := Heap.size_push ..
    rw [hsz] at hpr hz4 ⊢
    exact hQ x1 x2 _ tk2 hx1 hx2 ⟨_, _, hs0, Heap.get?_push_of_some _ hz₃⟩ ⟨_, _, Heap.get?_push_of_some _ (hk _ _ S.TOz S.Ti1 S.Ti2 hTO)⟩ (D1.frame _ _ _ hj1 fun b hb o e => Heap.get?_push_of_some _ e) (D2.frame _ _ _ sn2 fun b hb o e => Heap.get?_push_of_some _ e) hpr hz4
      fun c o c1 _ c2 c3 e => Heap.get?_push_of_some _ (hk c o c1 c2 c3 e)
theorem zi_end {Q : Fin → Shared → Prop} (S : ZipSep2 z TI TO i1 i2 fp1 fp2) (D1 : Draws prog w A i1 fp1 n1 P1 St1) (D2 : Draws prog w A i2 fp2 n2 P2 St2)
    (hz : ZiA s.heap z TI TO) (hTI : IsTupOf2 s.heap TI (.ref i1) (.ref i2)) (hTO : OutZ s.heap TO) (st1 : St1 i s.heap) (st2 : St2 i s.heap) (hle1 : i ≤ n1) (hle2 : i ≤ n2) (hend : i = n1 ∨ i = n2)
    (hE : ∀ h' tk e, (∀ c o, c ≠ z → c ≠ TO → c ≠ i1 → c ≠ i2 → s.heap.get? c = some o → h'.get? c = some o) → (∃ o, h'.get? e = some o ∧ o.cls = .type "StopIteration") → E (.ref e) { s with heap := h', toks := tk }) :
    wpAny (model prog w) A (Builtin.«zip.__next__» ⟨[.ref z], []⟩) Q E s := by
  obtain ⟨s0, f, hs0, hz⟩ := hz
  obtain ⟨a1, a2, hTO⟩ := hTO
  obtain ⟨hp, g, d, tk0, os⟩ := s
  show wpAny _ _ (field (.ref z) 2 >>= _) _ _ _
  refine wpAny_bind (wpAny_field hz rfl (x := .bool false) rfl ?_)
  show wpAny _ _ (field (.ref z) 3 >>= _) _ _ _
  refine wpAny_bind (wpAny_field hz rfl (x := .ref TI) rfl ?_)
  refine wpAny_bind (wpAny_seqItems hTI rfl ?_)
  show wpAny _ _ (Builtin.SmallTypes.ownedTupleIsFree (.ref z) >>= _) _ _ _
  refine wpAny_bind (free_zi (s := ⟨hp, g, d, tk0, os⟩) hz hs0 ?_ fun g0 f' hz0 hs0' => ?_)
  · simp only [if_true]
    refine wpAny_bind (wpAny_rule ?_)
    refine wpAny_bind (wpAny_field hz rfl (x := .ref TO) rfl ?_)
    refine wpAny_bind (wpAny_setField_rec hz (by simp) fun g0 hz0 hs0 => ?_)
    replace hz0 : g0.get? z = some (ziObj .ellipsis f TI TO) := hz0
    replace hs0 : Heap.SameBut z hp g0 := hs0
    refine wpAny_bind ?_
    simp only [List.zipIdx_cons, List.zipIdx_nil, List.forIn_cons, List.forIn_nil]
    refine wpAny_bind (wpAny_bind (wpAny_onRaise ?_))
    show wpAny _ _ (Builtin.SmallTypes.nextOf (.ref i1) >>= _) _ _ ⟨g0, g, d, tk0, os⟩
    by_cases hlt1 : i < n1
    · refine wpAny_bind (D1.item i _ _ _ hlt1 (D1.over st1 hs0 S.zf1) fun x1 p1 tk1 hx1 sn1 hp1 => wpAny_pure ?_)
      replace hp1 : Heap.SameBut i1 g0 p1 := hp1
      have hU1 : IsTupOf2 p1 TO a1 a2 := hp1.extBut _ _ S.Ti1 (hs0.extBut _ _ S.TOz hTO)
      refine wpAny_bind (wpAny_seqItems (s := ⟨p1, g, d, tk1, os⟩) hU1 rfl ?_)
      refine wpAny_bind (updateSeq_IsTupOf2 (s := ⟨p1, g, d, tk1, os⟩) hU1 fun g1 hT1 hs1 => ?_)
      replace hT1 : IsTupOf2 g1 TO x1 a2 := hT1
      replace hs1 : Heap.SameBut TO p1 g1 := hs1
      refine wpAny_bind (wpAny_letGo (wpAny_pure ?_))
      have hi2 : i = n2 := by omega
      refine wpAny_bind (wpAny_bind (wpAny_onRaise ?_))
      show wpAny _ _ (Builtin.SmallTypes.nextOf (.ref i2) >>= _) _ _ ⟨g1, g, d, tk1, os⟩
      refine wpAny_bind (D2.done ⟨g1, g, d, tk1, os⟩ _ _ (by rw [← hi2]; exact (D2.over (D2.over (D2.over st2 hs0 S.zf2) hp1 S.sep1_2) hs1 S.Tf2)) fun q e hq he => ?_)
      replace hq : Heap.ExtBut i2 g1 q := hq
      obtain ⟨oe, hoe, hce⟩ := he
      replace hoe : q.get? e = some oe := hoe
      have hzq : q.get? z = some (ziObj .ellipsis f TI TO) := hq _ _ S.zi2 (hs1.extBut _ _ S.TOz.symm (hp1.extBut _ _ S.zi1 hz0))
      have hez : e ≠ z := fun x => by subst x; rw [hzq] at hoe; cases hoe; simp at hce
      refine wpAny_setField_rec (s := ⟨q, g, d, tk1, os⟩) hzq (by simp) fun q' _ hq' => ?_
      replace hq' : Heap.SameBut z q q' := hq'
      exact hE q' tk1 e (fun c o cz cT c1 c2 x => hq'.extBut _ _ cz (hq _ _ c2 (hs1.extBut _ _ cT (hp1.extBut _ _ c1 (hs0.extBut _ _ cz x))))) ⟨oe, hq'.extBut _ _ hez hoe, hce⟩
    · have hi1 : i = n1 := by omega
      refine wpAny_bind (D1.done ⟨g0, g, d, tk0, os⟩ _ _ (by rw [← hi1]; exact (D1.over st1 hs0 S.zf1)) fun q e hq he => ?_)
      replace hq : Heap.ExtBut i1 g0 q := hq
      obtain ⟨oe, hoe, hce⟩ := he
      replace hoe : q.get? e = some oe := hoe
      have hzq : q.get? z = some (ziObj .ellipsis f TI TO) := hq _ _ S.zi1 hz0
      have hez : e ≠ z := fun x => by subst x; rw [hzq] at hoe; cases hoe; simp at hce
      refine wpAny_setField_rec (s := ⟨q, g, d, tk0, os⟩) hzq (by simp) fun q' _ hq' => ?_
      replace hq' : Heap.SameBut z q q' := hq'
      exact hE q' tk0 e (fun c o cz cT c1 c2 x => hq'.extBut _ _ cz (hq _ _ c1 (hs0.extBut _ _ cz x))) ⟨oe, hq'.extBut _ _ hez hoe, hce⟩
  · replace hs0' : Heap.SameBut z hp g0 := hs0'
    simp only [Bool.false_eq_true, if_false]
    refine wpAny_bind ?_
    rw [← Array.forIn_toList]
    simp only [List.forIn_cons, List.forIn_nil]
    refine wpAny_bind (wpAny_bind (wpAny_holding ?_))
    show wpAny _ _ (Builtin.SmallTypes.nextOf (.ref i1) >>= _) _ _ ⟨g0, g, d, tk0, os⟩
    by_cases hlt1 : i < n1
    · refine wpAny_bind (D1.item i _ _ _ hlt1 (D1.over st1 hs0' S.zf1) fun x1 p1 tk1 hx1 sn1 hp1 => wpAny_pure ?_)
      replace hp1 : Heap.SameBut i1 g0 p1 := hp1
      refine wpAny_pure ?_
      have hi2 : i = n2 := by omega
      refine wpAny_bind (wpAny_bind (wpAny_holding ?_))
      show wpAny _ _ (Builtin.SmallTypes.nextOf (.ref i2) >>= _) _ _ ⟨p1, g, d, tk1, os⟩
      refine wpAny_bind (D2.done ⟨p1, g, d, tk1, os⟩ _ _ (by rw [← hi2]; exact D2.over (D2.over st2 hs0' S.zf2) hp1 S.sep1_2) fun q e hq he => ?_)
      replace hq : Heap.ExtBut i2 p1 q := hq
      exact hE q tk1 e (fun c o c1 _ c2 c3 x => hq _ _ c3 (hp1.extBut _ _ c2 (hs0'.extBut _ _ c1 x))) he
    · have hi1 : i = n1 := by omega
      refine wpAny_bind (D1.done ⟨g0, g, d, tk0, os⟩ _ _ (by rw [← hi1]; exact D1.over st1 hs0' S.zf1) fun q e hq he => ?_)
      replace hq : Heap.ExtBut i1 g0 q := hq
      exact hE q tk0 e (fun c o c1 _ c2 _ x => hq _ _ c2 (hs0'.extBut _ _ c1 x)) he
/-- the zip as an iterator that another one draws from -/
theorem Dr.zi (S : ZipSep2 z TI TO i1 i2 fp1 fp2) (hTI1 : TI ∉ fp1) (hTI2 : TI ∉ fp2) (D1 : Draws prog w A.in1 i1 fp1 n1 P1 St1) (D2 : Draws prog w A.in1 i2 fp2 n2 P2 St2) :
    Dr prog w A z (z :: TI :: TO :: (fp1 ++ fp2)) [z, TO, i1, i2] (min n1 n2) (fun i x N Z h => ∃ T x1 x2, x = .ref T ∧ N ≤ T ∧ T < Z ∧ P1 i x1 ∧ P2 i x2 ∧ IsTupOf2 h T x1 x2)
      (fun i h => i ≤ min n1 n2 ∧ ZiA h z TI TO ∧ IsTupOf2 h TI (.ref i1) (.ref i2) ∧ OutZ h TO ∧ St1 i h ∧ St2 i h) where
  sub := fun c hc => by
    have hc' : c = z ∨ c = TO ∨ c = i1 ∨ c = i2 := by simpa using hc
    rcases hc' with rfl | rfl | rfl | rfl
    · simp
    · simp
    · have := S.mem1; simp [this]
    · have := S.mem2; simp [this]
  mem := by simp
  live := fun i h st c hc => by
    obtain ⟨_, ⟨_, _, _, hz⟩, hTI, ⟨_, _, hTO⟩, s1, s2⟩ := st
    have hc' : c = z ∨ c = TO ∨ c = i1 ∨ c = i2 := by simpa using hc
    rcases hc' with rfl | rfl | rfl | rfl
    · exact ⟨_, hz⟩
    · exact ⟨_, hTO⟩
    · exact D1.live _ _ s1
    · exact D2.live _ _ s2
  frame := fun i h h' st k => by
    obtain ⟨hi, ⟨_, _, h0, hz⟩, hTI, ⟨_, _, hTO⟩, s1, s2⟩ := st
    exact ⟨hi, ⟨_, _, h0, k z (by simp) _ hz⟩, k TI (by simp) _ hTI, ⟨_, _, k TO (by simp) _ hTO⟩, D1.frame _ _ _ s1 fun b hb o e => k b (by simp [hb]) o e, D2.frame _ _ _ s2 fun b hb o e => k b (by simp [hb]) o e⟩
  grow := fun i x N Z h h' p k => by
    obtain ⟨T, x1, x2, rfl, hN, hZ, p1, p2, hT⟩ := p
    exact ⟨T, x1, x2, rfl, hN, hZ, p1, p2, k T _ hN hT⟩
  item := fun i s Q E hi st hQ => by
    obtain ⟨hle, hz, hTI, hTO, s1, s2⟩ := st
    have hT : s.TypeIs (.ref z) "zip" := by obtain ⟨_, _, _, q⟩ := hz; exact ⟨_, q, rfl⟩
    unfold Builtin.SmallTypes.nextOf
    refine wpAny_bind (wpAny_callSpecial?_slot (name := Str.ofString "__next__") hT F.slot_zip_next (wpAny_call_entry F.slot_zip_next hT F.entry_zip_next
      (zi_item S D1 D2 hz hTI hTO s1 s2 (by omega) (by omega) fun x1 x2 h' tk y1 y2 b1 b2 d1 d2 b5 b6 b7 => ?_) (F.args_zip_next_1 _)))
    refine wpAny_pure (hQ _ h' tk ⟨s.heap.objs.size, x1, x2, rfl, Nat.le_refl _, by rw [b6]; exact Nat.lt_succ_self _, y1, y2, b5⟩ ⟨by omega, b1, b7 _ _ S.TIz S.TITO S.TIi1 S.TIi2 hTI, b2, d1, d2⟩ (by rw [b6]; exact Nat.le_succ _) fun b o hb q => ?_)
    exact b7 b o (fun e => hb (by simp [e])) (fun e => hb (by simp [e])) (fun e => hb (by simp [e])) (fun e => hb (by simp [e])) q
  done := fun s Q E st hE => by
    obtain ⟨hle, hz, hTI, hTO, s1, s2⟩ := st
    have hT : s.TypeIs (.ref z) "zip" := by obtain ⟨_, _, _, q⟩ := hz; exact ⟨_, q, rfl⟩
    unfold Builtin.SmallTypes.nextOf
    refine wpAny_bind (wpAny_callSpecial?_slot (name := Str.ofString "__next__") hT F.slot_zip_next (wpAny_call_entry F.slot_zip_next hT F.entry_zip_next
      (zi_end S D1 D2 hz hTI hTO s1 s2 (by omega) (by omega) (by omega) fun h' tk e hk he => ?_) (F.args_zip_next_1 _)))
    exact hE h' tk e (fun b o hb q => hk b o (fun e => hb (by simp [e])) (fun e => hb (by simp [e])) (fun e => hb (by simp [e])) (fun e => hb (by simp [e])) q) he
end
end DL
set_option Elab.async false
set_option linter.all false
set_option maxRecDepth 100000
set_option maxHeartbeats 1000000
namespace DL
open PySem PySem.Spec PyProof.Rows L2
theorem turnedMany {X : Cx} {pins : List (Addr × Obj)} {σ : L2.St} {H H' : Hp} {s : Shared} {h' : Heap} {t' : Nat} {ch : List Addr} (I : Inv X pins σ H s) (k : ∀ b o, b ∉ ch → s.heap.get? b = some o → h'.get? b = some o) (hf : ∀ b ∈ ch, FpOk X pins H b)
    (old : ∀ b, b < s.heap.objs.size → H' b = H b) (sub : ∀ b u, H b = some u → H' b = some u) (new : ∀ b u, H' b = some u → H b = some u ∨ ObjOk X.prog X.w H' h' b u) : Inv X pins σ H' { s with heap := h', toks := t' } := by
  have nit : ∀ b u, H b = some u → b ∉ ch := fun b u e z => by
    have q := (hf b z).1
    rw [q] at e; cases e
  refine I.step (g' := s.gens) (d' := s.drawn) (ch := ch) (fun b hb => ⟨(hf b hb).2.2.2.1, (hf b hb).2.1, (hf b hb).2.2.2.2.1, (hf b hb).2.2.2.2.2⟩) (fun b o _ _ hc e _ => k b o hc e) (fun b o _ _ hc e _ => ⟨o.slots, k b o hc e⟩)
    (fun b o _ e n => ?_) (fun b o hc e => ⟨o, k b o hc e⟩) (fun b xs e => sub _ _ e) (fun b o u e => sub _ _ e) (fun b ps e => ⟨#[], ?_⟩) (fun m hm => ?_) (fun b u e => ?_) I.bare
  · rw [old b (Heap.lt_size e)]; exact n
  · rw [sub _ _ e]; simp
  · obtain ⟨o, es, ep, ho, r⟩ := hm
    exact ⟨o, es, ep, k _ o (fun z => (hf _ z).2.1 rfl) ho, r⟩
  · rcases new b u e with e' | n
    · refine (I.hok b u e').stay (fun c v hc q => k c v ?_ q) (fun c q => sub _ _ q) fun c xs q => sub _ _ q
      rcases hc with z | z
      · rw [z]; exact nit b u e'
      · exact nit c _ z
    · exact n
theorem vals_rev : ∀ {xs : List V} {us : List Value} {i : Nat} {u : Value}, Vals xs us → us[i]? = some u → ∃ x, xs[i]? = some x ∧ RelV x u
  | _, _, _, _, .nil, e => by simp at e
  | _, _, 0, _, .cons r _, e => by simp at e; subst e; exact ⟨_, rfl, r⟩
  | _, _, i + 1, u, .cons _ t, e => by
    obtain ⟨x, h1, h2⟩ := vals_rev (i := i) (u := u) t (by simpa using e)
    exact ⟨x, by simpa using h1, h2⟩
theorem iter_en {prog : Program} {w : World} {A : Around} {E : Value → Shared → Prop} {s : Shared} {e it : Addr} {i : Int} {Q : Value → Shared → Prop} (he : EnA s.heap e it i) (h : Q (.ref e) s) : wpAny (model prog w) A (pyIter (.ref e)) Q E s := by
  obtain ⟨_, _, _, _, q⟩ := he
  have hT : s.TypeIs (.ref e) "enumerate" := ⟨_, q, rfl⟩
  refine wpAny_pyIter_slot hT F.slot_enumerate_iter (wpAny_call_entry F.slot_enumerate_iter hT F.entry_enumerate_iter ?_ (F.args_enumerate_iter_1 _))
  show wpAny _ _ (ret (.ref e)) _ _ s
  exact wpAny_pure ⟨_, rfl, "enumerate", _, hT, F.slot_enumerate_next.lookup, h⟩
theorem iter_zi {prog : Program} {w : World} {A : Around} {E : Value → Shared → Prop} {s : Shared} {z TI TO : Addr} {Q : Value → Shared → Prop} (hz : ZiA s.heap z TI TO) (h : Q (.ref z) s) : wpAny (model prog w) A (pyIter (.ref z)) Q E s := by
  obtain ⟨_, _, _, q⟩ := hz
  have hT : s.TypeIs (.ref z) "zip" := ⟨_, q, rfl⟩
  refine wpAny_pyIter_slot hT F.slot_zip_iter (wpAny_call_entry F.slot_zip_iter hT F.entry_zip_iter ?_ (F.args_zip_iter_1 _))
  show wpAny _ _ (ret (.ref z)) _ _ s
  exact wpAny_pure ⟨_, rfl, "zip", _, hT, F.slot_zip_next.lookup, h⟩
/-- what each draw does, with the store known -/
structure Pull (P : Program) (w : World) (K : PySem.W.Frag) (J : It) (fp : List Addr) (it : Addr) (tn : Nat → Heap → Prop) : Prop where
  mem : it ∈ fp
  obj : ∀ i h, tn i h → ∀ b ∈ fp, ∃ o, h.get? b = some o ∧ ∀ v, o.data ≠ .cell v
  keep : ∀ i h h', tn i h → (∀ b ∈ fp, ∀ o, h.get? b = some o → h'.get? b = some o) → tn i h'
  item : ∀ (X : Cx), X.prog = P → X.w = w → X.K = K → ∀ (A : Around), A.handled = none → ∀ (i : Nat) (pins : List (Addr × Obj)) (s : Shared) (σ : L2.St) (H : Hp) (E : Value → Shared → Prop), Inv X pins σ H s → (∀ b ∈ fp, FpOk X pins H b) → tn i s.heap → J.go i H →
    wpAny (model P w) A (pyNext (.ref it)) (fun r s1 => ∃ u, r = some u ∧ ∃ x H', Inv X pins σ H' s1 ∧ RelV x u ∧ J.yld i H x H' ∧ tn (i + 1) s1.heap ∧ ∀ b ∈ fp, H' b = none) E s
  done : ∀ (X : Cx), X.prog = P → X.w = w → X.K = K → ∀ (A : Around), A.handled = none → ∀ (i : Nat) (pins : List (Addr × Obj)) (s : Shared) (σ : L2.St) (H : Hp) (E : Value → Shared → Prop), Inv X pins σ H s → (∀ b ∈ fp, FpOk X pins H b) → tn i s.heap → J.stop i H →
    wpAny (model P w) A (pyNext (.ref it)) (fun r s1 => r = none ∧ Inv X pins σ H s1) E s
theorem turn_of {P : Program} {w : World} {K : PySem.W.Frag} {tg : Expr} {J : It} {fp : List Addr} {it : Addr} {tn : Nat → Heap → Prop} (p : Pull P w K J fp it tn)
    (go : ∀ (A : Around) (i : Nat) (s : Shared) (u : Value) (Q : Unit → Shared → Prop) (E : Value → Shared → Prop), tn i s.heap → (∀ h', tn i h' → Heap.SameBut it s.heap h' → Q () { s with heap := h' }) → wpAny (model P w) A (letOwnedTupleGo tg (.ref it) u) Q E s)
    (self : ∀ (A : Around) (i : Nat) (s : Shared) (Q : Value → Shared → Prop) (E : Value → Shared → Prop), tn i s.heap → Q (.ref it) s → wpAny (model P w) A (pyIter (.ref it)) Q E s) : Turn P w K tg J fp it tn where
  mem := p.mem
  obj := p.obj
  keep := p.keep
  item := by
    intro X hP hw hK hc i pins s σ H E I hf st hg
    refine thn (p.item X hP hw hK X.A (I.ok.hd hc) i pins s σ H E I hf st hg) fun r s1 ⟨u, hr, x, H', I', rel, y, st', fn⟩ => ⟨u, hr, go _ _ _ _ _ _ st' fun h' st2 sb => ⟨x, H', ?_, rel, y, st2, fn⟩⟩
    exact I'.turnedL (t' := s1.toks) (ch := [it]) (fun b o hb q => (sb.2 b (fun z => hb (by simp [z]))).trans q) fun b hb => by rw [List.mem_singleton.mp hb]; exact ⟨fn it p.mem, (hf it p.mem).2⟩
  done := fun X hP hw hK hc i pins s σ H E I hf st hg => p.done X hP hw hK X.A (I.ok.hd hc) i pins s σ H E I hf st hg
  self := self
inductive Sq | lst (a : Addr) | tup (a : Addr) | str (z : Str)
namespace Sq
def v : Sq → V
  | lst a => .ref a
  | tup a => .ref a
  | str z => .str z
def val (t : Tok) : Sq → Value
  | lst a => .ref a
  | tup a => .ref a
  | str z => .str z t
def its (K : PySem.W.Frag) (H : Hp) (xs : List V) : Sq → Prop
  | lst a => SqL K H a xs
  | tup a => SqT K H a xs
  | str z => xs = z.cps.toList.map fun c => V.str ⟨#[c]⟩
def st (t : Tok) (it : Addr) (i : Nat) (h : Heap) : Sq → Prop
  | lst a => h.IsListIter it a i
  | tup a => h.IsTupleIter it a i
  | str z => h.IsStrIter it (strIterType z) z t i
def addr : Sq → List Addr
  | lst a => [a]
  | tup a => [a]
  | str z => []
theorem rel {S : Sq} {u : Value} (r : RelV S.v u) : ∃ t, u = S.val t := by
  cases S with
  | lst a => exact ⟨0, r⟩
  | tup a => exact ⟨0, r⟩
  | str z => exact r
theorem inj {X : Cx} {pins : List (Addr × Obj)} {σ : L2.St} {H : Hp} {s : Shared} (I : Inv X pins σ H s) {S : Sq} {xs ys : List V} (h : S.its X.K H xs) (h' : S.its X.K H ys) : xs = ys := by
  cases S with
  | lst a => exact I.list_inj h h'
  | tup a => exact I.tuple_inj h h'
  | str z => exact (show xs = _ from h).trans (show ys = _ from h').symm
theorem stLive {S : Sq} {t : Tok} {it : Addr} {i : Nat} {h : Heap} (q : S.st t it i h) : ∃ o, h.get? it = some o ∧ ∃ vs, o.data = .fields vs := by
  cases S with
  | lst a => obtain ⟨o, e, _, d⟩ := q; exact ⟨o, e, _, d⟩
  | tup a => obtain ⟨o, e, _, d⟩ := q; exact ⟨o, e, _, d⟩
  | str z => obtain ⟨o, e, _, d⟩ := q; exact ⟨o, e, _, d⟩
theorem stAt {S : Sq} {t : Tok} {it : Addr} {i : Nat} {h h' : Heap} (q : S.st t it i h) (k : ∀ o, h.get? it = some o → h'.get? it = some o) : S.st t it i h' := by
  cases S with
  | lst a => obtain ⟨o, e, r⟩ := q; exact ⟨o, k o e, r⟩
  | tup a => obtain ⟨o, e, r⟩ := q; exact ⟨o, k o e, r⟩
  | str z => obtain ⟨o, e, r⟩ := q; exact ⟨o, k o e, r⟩
/-- the draws of its iterator, as things stand -/
theorem draws {X : Cx} {pins : List (Addr × Obj)} {σ : L2.St} {H : Hp} {s : Shared} (I : Inv X pins σ H s) {S : Sq} {xs : List V} (h : S.its X.K H xs) {t : Tok} {it : Addr} (hn : it ∉ S.addr) (A : Around) (hh : A.handled = none) :
    ∃ (fp : List Addr) (P : Nat → Value → Prop) (St : Nat → Heap → Prop), Draws X.prog X.w A it (it :: fp) xs.length P St ∧ (∀ b ∈ fp, b ∈ S.addr) ∧ (∀ i, S.st t it i s.heap → St i s.heap) ∧ (∀ i h, St i h → S.st t it i h) ∧ ∀ i u, P i u → ∃ x, xs[i]? = some x ∧ RelV x u := by
  cases S with
  | lst a =>
    obtain ⟨its, rv, p, hz⟩ := I.list h
    have e : its.toArray.size = xs.length := by rw [List.size_toArray, rv.length]
    refine ⟨[a], _, _, e ▸ Draws.list hh it a (fun q => hn (by rw [q]; exact List.mem_singleton_self _)) its.toArray, fun b hb => hb, fun i q => ⟨q, p.isList⟩, fun i h q => q.1, fun i u q => ?_⟩
    exact vals_rev rv (by simpa using q)
  | tup a =>
    obtain ⟨its, rv, p, hz⟩ := I.tuple h
    have e : its.toArray.size = xs.length := by rw [List.size_toArray, rv.length]
    refine ⟨[a], _, _, e ▸ Draws.tuple hh it a (fun q => hn (by rw [q]; exact List.mem_singleton_self _)) its.toArray, fun b hb => hb, fun i q => ⟨q, p⟩, fun i h q => q.1, fun i u q => ?_⟩
    exact vals_rev rv (by simpa using q)
  | str z =>
    have h' : xs = z.cps.toList.map fun c => V.str ⟨#[c]⟩ := h
    subst h'
    have e : z.cps.size = (z.cps.toList.map fun c => V.str ⟨#[c]⟩).length := by simp
    refine ⟨[], _, _, e ▸ Draws.text hh it z t, fun b hb => hb, fun i q => q, fun i h q => q, fun i u q => ?_⟩
    obtain ⟨c, u, hc, rfl⟩ := q
    exact ⟨.str ⟨#[c]⟩, by simp [hc], u, rfl⟩
def obj (t : Tok) : Sq → Obj
  | lst a => { cls := .type "list_iterator", data := .fields #[.ref a, .int 0 0] }
  | tup a => { cls := .type "tuple_iterator", data := .fields #[.ref a, .int 0 0] }
  | str z => { cls := .type (strIterType z), data := .fields #[.str z t, .int 0 0] }
theorem begins {X : Cx} {pins : List (Addr × Obj)} {σ : L2.St} {H : Hp} {s : Shared} (I : Inv X pins σ H s) {S : Sq} {xs : List V} (h : S.its X.K H xs) (t : Tok) : ∃ Hp, Begins (S.val t) (S.obj t) Hp ∧ Hp s.heap := by
  cases S with
  | lst a =>
    obtain ⟨its, rv, p, hz⟩ := I.list h
    exact ⟨_, begins_list a its.toArray, p.isList⟩
  | tup a =>
    obtain ⟨its, rv, p, hz⟩ := I.tuple h
    exact ⟨_, begins_tuple a its.toArray, p⟩
  | str z => exact ⟨_, begins_text z t, trivial⟩
theorem st0 {S : Sq} {t : Tok} {it : Addr} {h : Heap} (e : h.get? it = some (S.obj t)) : S.st t it 0 h := by
  cases S with
  | lst a => exact ⟨_, e, rfl, rfl⟩
  | tup a => exact ⟨_, e, rfl, rfl⟩
  | str z => exact ⟨_, e, rfl, rfl⟩
theorem addr_lt {X : Cx} {pins : List (Addr × Obj)} {σ : L2.St} {H : Hp} {s : Shared} (I : Inv X pins σ H s) {S : Sq} {xs : List V} (h : S.its X.K H xs) : ∀ b ∈ S.addr, b < s.heap.objs.size := by
  cases S with
  | lst a =>
    obtain ⟨its, rv, ⟨o, n, e, _⟩, hz⟩ := I.list h
    intro b hb
    rw [List.mem_singleton.mp hb]
    exact Heap.lt_size e
  | tup a =>
    obtain ⟨its, rv, ⟨o, e, _⟩, hz⟩ := I.tuple h
    intro b hb
    rw [List.mem_singleton.mp hb]
    exact Heap.lt_size e
  | str z => intro b hb; cases hb
end Sq
theorem tup_ok {P : Program} {w : World} {H : Hp} {h : Heap} {T : Addr} {xs : List V} {us : List Value} (hl : xs.length ≤ sizeLine) (r : Vals xs us) (hT : h.get? T = some { cls := .type "tuple", data := .seq us.toArray }) : ObjOk P w H h T (.tup xs) :=
  ⟨hl, us, r, ⟨_, hT, rfl, _, rfl⟩⟩

/-- the cells of a zip: apart, and apart from what it goes over -/
structure ZiAp (S1 S2 : Sq) (z TI TO i1 i2 : Addr) : Prop where
  TIz : TI ≠ z
  TOz : TO ≠ z
  TITO : TI ≠ TO
  TIi1 : TI ≠ i1
  TIi2 : TI ≠ i2
  zi1 : z ≠ i1
  zi2 : z ≠ i2
  TOi1 : TO ≠ i1
  TOi2 : TO ≠ i2
  i12 : i1 ≠ i2
  out : ∀ b, b ∈ S1.addr ∨ b ∈ S2.addr → b ≠ z ∧ b ≠ TI ∧ b ≠ TO ∧ b ≠ i1 ∧ b ≠ i2
section
variable {S1 S2 : Sq} {z TI TO i1 i2 : Addr}
theorem ZiAp.sep (D : ZiAp S1 S2 z TI TO i1 i2) {fp1 fp2 : List Addr} (h1 : ∀ b ∈ fp1, b ∈ S1.addr) (h2 : ∀ b ∈ fp2, b ∈ S2.addr) : ZipSep2 z TI TO i1 i2 (i1 :: fp1) (i2 :: fp2) := by
  have o1 : ∀ b ∈ fp1, b ≠ z ∧ b ≠ TI ∧ b ≠ TO ∧ b ≠ i1 ∧ b ≠ i2 := fun b hb => D.out b (.inl (h1 b hb))
  have o2 : ∀ b ∈ fp2, b ≠ z ∧ b ≠ TI ∧ b ≠ TO ∧ b ≠ i1 ∧ b ≠ i2 := fun b hb => D.out b (.inr (h2 b hb))
  refine ⟨D.TIz, D.TOz, D.TITO, D.TIi1, List.mem_cons_self, ?_, ?_, D.TIi2, List.mem_cons_self, ?_, ?_, ?_, ?_⟩
  · intro q; rcases List.mem_cons.mp q with q | q
    · exact D.zi1 q
    · exact (o1 _ q).1 rfl
  · intro q; rcases List.mem_cons.mp q with q | q
    · exact D.TOi1 q
    · exact (o1 _ q).2.2.1 rfl
  · intro q; rcases List.mem_cons.mp q with q | q
    · exact D.zi2 q
    · exact (o2 _ q).1 rfl
  · intro q; rcases List.mem_cons.mp q with q | q
    · exact D.TOi2 q
    · exact (o2 _ q).2.2.1 rfl
  · intro q; rcases List.mem_cons.mp q with q | q
    · exact D.i12 q
    · exact (o2 _ q).2.2.2.1 rfl
  · intro q; rcases List.mem_cons.mp q with q | q
    · exact D.i12 q.symm
    · exact (o1 _ q).2.2.2.2 rfl
def ZiSt (S1 S2 : Sq) (t1 t2 : Tok) (z TI TO i1 i2 : Addr) (i : Nat) (h : Heap) : Prop := ZiA h z TI TO ∧ IsTupOf2 h TI (.ref i1) (.ref i2) ∧ OutZ h TO ∧ S1.st t1 i1 i h ∧ S2.st t2 i2 i h
theorem ZiSt.keep {t1 t2 : Tok} {i : Nat} {h h' : Heap} (st : ZiSt S1 S2 t1 t2 z TI TO i1 i2 i h) (k : ∀ b ∈ [z, TI, TO, i1, i2], ∀ o, h.get? b = some o → h'.get? b = some o) : ZiSt S1 S2 t1 t2 z TI TO i1 i2 i h' := by
  obtain ⟨⟨_, _, h0, hz⟩, hTI, ⟨_, _, hTO⟩, s1, s2⟩ := st
  exact ⟨⟨_, _, h0, k z (by simp) _ hz⟩, k TI (by simp) _ hTI, ⟨_, _, k TO (by simp) _ hTO⟩, Sq.stAt s1 fun o q => k i1 (by simp) o q, Sq.stAt s2 fun o q => k i2 (by simp) o q⟩
theorem ZiSt.obj {t1 t2 : Tok} {i : Nat} {h : Heap} (st : ZiSt S1 S2 t1 t2 z TI TO i1 i2 i h) : ∀ b ∈ [z, TI, TO, i1, i2], ∃ o, h.get? b = some o ∧ ∀ v, o.data ≠ .cell v := by
  obtain ⟨⟨_, _, h0, hz⟩, hTI, ⟨_, _, hTO⟩, s1, s2⟩ := st
  intro b hb
  have e' : b = z ∨ b = TI ∨ b = TO ∨ b = i1 ∨ b = i2 := by simpa using hb
  rcases e' with q | q | q | q | q
  · rw [q]; exact ⟨_, hz, fun v q => nomatch q⟩
  · rw [q]; exact ⟨_, hTI, fun v q => nomatch q⟩
  · rw [q]; exact ⟨_, hTO, fun v q => nomatch q⟩
  · rw [q]; obtain ⟨o, ho, vs, hd⟩ := Sq.stLive s1; exact ⟨o, ho, fun v q => by rw [hd] at q; cases q⟩
  · rw [q]; obtain ⟨o, ho, vs, hd⟩ := Sq.stLive s2; exact ⟨o, ho, fun v q => by rw [hd] at q; cases q⟩
def Jez (K : PySem.W.Frag) (S1 S2 : Sq) (n1 n2 : Nat) : It :=
  ⟨fun i H => i < min n1 n2 ∧ ∃ xs ys, S1.its K H xs ∧ xs.length = n1 ∧ S2.its K H ys ∧ ys.length = n2, fun i H v H' => ∃ T U x y, v = .ref U ∧ H T = none ∧ H U = none ∧ T ≠ U ∧ H' = upd (upd H T (.tup [x, y])) U (.tup [.int (i : Nat), .ref T]) ∧ (∀ xs, S1.its K H xs → xs[i]? = some x) ∧ ∀ ys, S2.its K H ys → ys[i]? = some y,
    fun i H => min n1 n2 ≤ i ∧ ∃ xs ys, S1.its K H xs ∧ xs.length = n1 ∧ S2.its K H ys ∧ ys.length = n2⟩
theorem pull_ez {P : Program} {w : World} {K : PySem.W.Frag} (t1 t2 : Tok) (n1 n2 : Nat) (e : Addr) (D : ZiAp S1 S2 z TI TO i1 i2) (he : e ≠ z ∧ e ≠ TI ∧ e ≠ TO ∧ e ≠ i1 ∧ e ≠ i2) (heo : ∀ b, b ∈ S1.addr ∨ b ∈ S2.addr → b ≠ e) :
    Pull P w K (Jez K S1 S2 n1 n2) [e, z, TI, TO, i1, i2] e (fun i h => i ≤ min n1 n2 ∧ EnA h e z (i : Nat) ∧ ZiSt S1 S2 t1 t2 z TI TO i1 i2 i h) where
  mem := by simp
  obj := fun i h st b hb => by
    rcases List.mem_cons.mp hb with q | q
    · obtain ⟨_, ⟨_, _, _, _, he⟩, _⟩ := st
      rw [q]; exact ⟨_, he, fun v q => nomatch q⟩
    · exact st.2.2.obj b q
  keep := fun i h h' st k => by
    obtain ⟨hi, ⟨s0, f, old, h0, he⟩, hs⟩ := st
    exact ⟨hi, ⟨s0, f, old, h0, k e (by simp) _ he⟩, hs.keep fun b hb o q => k b (List.mem_cons_of_mem _ hb) o q⟩
  item := by
    intro X hP hw hK A hh i pins s σ H E I hf st hg
    subst hP hw hK
    have lts : ∀ b ∈ [z, TI, TO, i1, i2], b < s.heap.objs.size := fun b hb => let ⟨o, e, _⟩ := st.2.2.obj b hb; Heap.lt_size e
    obtain ⟨hle, hen, hz, hTI, hTO, s1, s2⟩ := st
    obtain ⟨hi, xs, ys, hqx, hlx, hqy, hly⟩ := hg
    have hel : e < s.heap.objs.size := by obtain ⟨_, _, _, _, q⟩ := hen; exact Heap.lt_size q
    have nz : i1 ∉ S1.addr := fun q => (D.out _ (.inl q)).2.2.2.1 rfl
    have nz2 : i2 ∉ S2.addr := fun q => (D.out _ (.inr q)).2.2.2.2 rfl
    obtain ⟨fp, Pv, St, D1, hfp, up, down, val⟩ := Sq.draws I hqx (t := t1) nz A.in1.in1 hh
    obtain ⟨fp2, Pv2, St2, D2, hfp2, up2, down2, val2⟩ := Sq.draws I hqy (t := t2) nz2 A.in1.in1 hh
    have Sp := D.sep hfp hfp2
    have TI1 : TI ∉ i1 :: fp := fun q => by
      rcases List.mem_cons.mp q with q | q
      · exact D.TIi1 q
      · exact (D.out _ (.inl (hfp _ q))).2.1 rfl
    have TI2 : TI ∉ i2 :: fp2 := fun q => by
      rcases List.mem_cons.mp q with q | q
      · exact D.TIi2 q
      · exact (D.out _ (.inr (hfp2 _ q))).2.1 rfl
    have Dz := Dr.zi (A := A.in1) Sp TI1 TI2 D1 D2
    have hef : e ∉ z :: TI :: TO :: (i1 :: fp ++ i2 :: fp2) := fun q => by
      simp only [List.mem_cons, List.mem_append, List.cons_append] at q
      rcases q with q | q | q | q | q | q | q
      · exact he.1 q
      · exact he.2.1 q
      · exact he.2.2.1 q
      · exact he.2.2.2.1 q
      · exact heo _ (.inl (hfp _ q)) rfl
      · exact he.2.2.2.2 q
      · exact heo _ (.inr (hfp2 _ q)) rfl
    refine en_pyNext_item Dz hen ⟨by omega, hz, hTI, hTO, up i s1, up2 i s2⟩ (by omega) hef fun x h' tk U t' Z p hN hZ hU hen' hs' hTup hk => ?_
    obtain ⟨T, u1, u2, rfl, hNT, hTZ, p1, p2, hT⟩ := p
    obtain ⟨_, hz', hTI', hTO', s1', s2'⟩ := hs'
    obtain ⟨xv, hx, rx⟩ := val i u1 p1
    obtain ⟨yv, hy, ry⟩ := val2 i u2 p2
    have hUl : s.heap.objs.size ≤ U := Nat.le_trans hN hZ
    have hTU : T ≠ U := Nat.ne_of_lt (Nat.lt_of_lt_of_le hTZ hZ)
    have eT : T ≠ e := Nat.ne_of_gt (Nat.lt_of_lt_of_le hel hNT)
    have eU : U ≠ e := Nat.ne_of_gt (Nat.lt_of_lt_of_le hel hUl)
    have fT := I.hok.fresh hNT
    have fU := I.hok.fresh hUl
    have kk : ∀ c o, c ∉ [e, z, TI, TO, i1, i2] → s.heap.get? c = some o → h'.get? c = some o := fun c o hb q => by
      refine hk c o (fun q' => hb (by simp [q'])) (fun q' => hb ?_) q
      have : c = z ∨ c = TO ∨ c = i1 ∨ c = i2 := by simpa using q'
      rcases this with r | r | r | r <;> simp [r]
    have I1 : Inv X pins σ (upd (upd H T (.tup [xv, yv])) U (.tup [.int (i : Nat), .ref T])) { s with heap := h', toks := tk } := by
      refine turnedMany I (ch := [e, z, TI, TO, i1, i2]) kk hf (fun b hb => ?_) (fun b u q => ?_) fun b u q => ?_
      · rw [upd_ne (Nat.ne_of_lt (Nat.lt_of_lt_of_le hb hUl)), upd_ne (Nat.ne_of_lt (Nat.lt_of_lt_of_le hb hNT))]
      · rw [upd_ne (ne_of_none q fU), upd_ne (ne_of_none q fT)]; exact q
      · by_cases hb : b = U
        · subst hb
          rw [upd_same] at q
          cases q
          exact .inr (tup_ok (by show 2 ≤ sizeLine; decide) (.cons ⟨_, rfl⟩ (.cons rfl .nil)) hTup)
        · rw [upd_ne hb] at q
          by_cases hb2 : b = T
          · subst hb2
            rw [upd_same] at q
            cases q
            exact .inr (tup_ok (by show 2 ≤ sizeLine; decide) (.cons rx (.cons ry .nil)) hT)
          · rw [upd_ne hb2] at q
            exact .inl q
    refine ⟨_, rfl, .ref U, _, I1, rfl, ⟨T, U, xv, yv, rfl, fT, fU, hTU, rfl, fun l hl => by rw [Sq.inj I hl hqx]; exact hx, fun l hl => by rw [Sq.inj I hl hqy]; exact hy⟩, ⟨by omega, hen', hz', hTI', hTO', down _ _ s1', down2 _ _ s2'⟩, fun c hcm => ?_⟩
    · have hcl : c < s.heap.objs.size := by
        rcases List.mem_cons.mp hcm with q | q
        · rw [q]; exact hel
        · exact lts c q
      rw [upd_ne (Nat.ne_of_lt (Nat.lt_of_lt_of_le hcl hUl)), upd_ne (Nat.ne_of_lt (Nat.lt_of_lt_of_le hcl hNT))]
      exact (hf c hcm).1
  done := by
    intro X hP hw hK A hh i pins s σ H E I hf st hg
    subst hP hw hK
    obtain ⟨hle, hen, hz, hTI, hTO, s1, s2⟩ := st
    obtain ⟨hi, xs, ys, hqx, hlx, hqy, hly⟩ := hg
    have nz : i1 ∉ S1.addr := fun q => (D.out _ (.inl q)).2.2.2.1 rfl
    have nz2 : i2 ∉ S2.addr := fun q => (D.out _ (.inr q)).2.2.2.2 rfl
    obtain ⟨fp, Pv, St, D1, hfp, up, down, val⟩ := Sq.draws I hqx (t := t1) nz A.in1.in1 hh
    obtain ⟨fp2, Pv2, St2, D2, hfp2, up2, down2, val2⟩ := Sq.draws I hqy (t := t2) nz2 A.in1.in1 hh
    have Sp := D.sep hfp hfp2
    have TI1 : TI ∉ i1 :: fp := fun q => by
      rcases List.mem_cons.mp q with q | q
      · exact D.TIi1 q
      · exact (D.out _ (.inl (hfp _ q))).2.1 rfl
    have TI2 : TI ∉ i2 :: fp2 := fun q => by
      rcases List.mem_cons.mp q with q | q
      · exact D.TIi2 q
      · exact (D.out _ (.inr (hfp2 _ q))).2.1 rfl
    have Dz := Dr.zi (A := A.in1) Sp TI1 TI2 D1 D2
    have e1 : i = min xs.length ys.length := by omega
    refine en_pyNext_end Dz hen ⟨Nat.le_refl _, hz, hTI, hTO, by rw [← e1]; exact up i s1, by rw [← e1]; exact up2 i s2⟩ fun h' tk k => ⟨rfl, I.turnedL (ch := [e, z, TI, TO, i1, i2]) (fun c o hb q => k c o (fun q' => hb ?_) q) hf⟩
    have : c = z ∨ c = TO ∨ c = i1 ∨ c = i2 := by simpa using q'
    rcases this with r | r | r | r <;> simp [r]
theorem turn_ez {P : Program} {w : World} {K : PySem.W.Frag} {tg : Expr} (t1 t2 : Tok) (n1 n2 : Nat) (e : Addr) (D : ZiAp S1 S2 z TI TO i1 i2) (he : e ≠ z ∧ e ≠ TI ∧ e ≠ TO ∧ e ≠ i1 ∧ e ≠ i2) (heo : ∀ b, b ∈ S1.addr ∨ b ∈ S2.addr → b ≠ e) :
    Turn P w K tg (Jez K S1 S2 n1 n2) [e, z, TI, TO, i1, i2] e (fun i h => i ≤ min n1 n2 ∧ EnA h e z (i : Nat) ∧ ZiSt S1 S2 t1 t2 z TI TO i1 i2 i h) :=
  turn_of (pull_ez t1 t2 n1 n2 e D he heo) (fun A i s u Q E st hQ => en_go st.2.1 fun h' q sb => hQ h' ⟨st.1, q, st.2.2.keep fun b hb o q => (sb.2 b (by
      have : b = z ∨ b = TI ∨ b = TO ∨ b = i1 ∨ b = i2 := by simpa using hb
      rcases this with r | r | r | r | r
      · rw [r]; exact he.1.symm
      · rw [r]; exact he.2.1.symm
      · rw [r]; exact he.2.2.1.symm
      · rw [r]; exact he.2.2.2.1.symm
      · rw [r]; exact he.2.2.2.2.symm)).trans q⟩ sb) fun A i s Q E st h => iter_en st.2.1 h
end
end DL
set_option Elab.async false
set_option linter.all false
set_option maxRecDepth 100000
set_option maxHeartbeats 1000000
namespace DL
open PySem
open Sem (wp)
set_option maxHeartbeats 2000000 in
theorem meets_en1 {v : Value} {H : Heap → Prop} {itA : Heap → Addr} {grow : Heap → Heap} (B : ∀ (prog : Program) (w : World) (A : Around) (E : Value → Shared → Prop) (s : Shared) (Q : Value → Shared → Prop), H s.heap → Q (.ref (itA s.heap)) { s with heap := grow s.heap } → wpAny (model prog w) A (pyIter v) Q E s) :
    Meets (Builtin.«enumerate.__new__» ⟨[.type "enumerate", v], []⟩) (fun _ R s => H s.heap ∧
      R (.ok (.ret (.ref (grow s.heap).objs.size))) { s with heap := (grow s.heap).push { cls := .type "enumerate", data := .fields #[.none, .bool false, .ref (itA s.heap), rawInt 0, .none, .none] } }) :=
  .of_wp fun prog w A R s h => by
    obtain ⟨hp, g, d, tk, os⟩ := s; obtain ⟨h1, h⟩ := h
    have hsub := sub_enumerate
    have q1 : ∀ {A' : Around} {E : Value → Shared → Prop} {Q : Value → Shared → Prop}, Q (.ref (itA hp)) ⟨grow hp, g, d, tk, os⟩ → wpAny (model prog w) A' (pyIter v) Q E ⟨hp, g, d, tk, os⟩ :=
      fun q => B prog w _ _ ⟨hp, g, d, tk, os⟩ _ h1 q
    wp_walk using q1
    refine wpAny_stack_any fun st => wpAny_pure ?_
    split
    · rename_i c _ _ _ _ _
      cases (c == Value.type "enumerate")
      · wp_walk using q1
        exact ⟨_, rfl, h⟩
      · wp_walk using q1
        exact ⟨_, rfl, h⟩
    · wp_walk using q1
      exact ⟨_, rfl, h⟩
section
variable {prog : Program} {w : World} {A : Around} {E : Value → Shared → Prop} {s : Shared}
theorem en_begins {v : Value} {H : Heap → Prop} {itA : Heap → Addr} {grow : Heap → Heap} {Q : Value → Shared → Prop} (B : ∀ (prog : Program) (w : World) (A : Around) (E : Value → Shared → Prop) (s : Shared) (Q : Value → Shared → Prop), H s.heap → Q (.ref (itA s.heap)) { s with heap := grow s.heap } → wpAny (model prog w) A (pyIter v) Q E s) (h1 : H s.heap)
    (h : ∀ h', EnA h' (grow s.heap).objs.size (itA s.heap) ((0 : Nat) : Int) → h'.objs.size = (grow s.heap).objs.size + 1 →
      (∀ b o, (grow s.heap).get? b = some o → h'.get? b = some o) → Q (.ref (grow s.heap).objs.size) { s with heap := h' }) :
    wpAny (model prog w) A (call (.type "enumerate") [v]) Q E s := by
  refine callType_new F.called_enumerate (by decide) (F.typeCall_enumerate_1 _) (F.newCall_enumerate_1 _) (fun obj => F.args_object_init_2 obj _) F.entry_enumerate_new (meets_en1 B) ⟨h1, ?_⟩
  have he : ((grow s.heap).push { cls := .type "enumerate", data := .fields #[.none, .bool false, .ref (itA s.heap), rawInt 0, .none, .none] }).get? (grow s.heap).objs.size = some (enObj .none false (itA s.heap) 0 .none) := Heap.get?_push_size _ rfl
  show _ ∧ _
  exact ⟨⟨_, he, rfl⟩, h _ ⟨_, _, _, .inl rfl, he⟩ (by rw [Heap.size_push]) fun b o x => Heap.get?_push_of_some _ x⟩
end
open PySem.Spec PyProof.Rows L2
/-- a zip is begun -/
theorem zi_begun {X : Cx} {pins : List (Addr × Obj)} {σ : L2.St} {H : Hp} {s : Shared} (I : Inv X pins σ H s) {S1 S2 : Sq} {xs ys : List V} (h1 : S1.its X.K H xs) (h2 : S2.its X.K H ys) (t1 t2 : Tok) {A : Around} {E : Value → Shared → Prop} {Q : Value → Shared → Prop}
    (hQ : ∀ h', ZiAp S1 S2 (s.heap.objs.size + 4) (s.heap.objs.size + 2) (s.heap.objs.size + 3) s.heap.objs.size (s.heap.objs.size + 1) → ZiSt S1 S2 t1 t2 (s.heap.objs.size + 4) (s.heap.objs.size + 2) (s.heap.objs.size + 3) s.heap.objs.size (s.heap.objs.size + 1) 0 h' → h'.objs.size = s.heap.objs.size + 5 →
      (∀ c o, s.heap.get? c = some o → h'.get? c = some o) → Q (.ref (s.heap.objs.size + 4)) { s with heap := h' }) : wpAny (model X.prog X.w) A (call (.type "zip") [S1.val t1, S2.val t2]) Q E s := by
  obtain ⟨Hp1, B1, hHp1⟩ := Sq.begins I h1 t1
  obtain ⟨Hp2, B2, hHp2⟩ := Sq.begins I h2 t2
  have l1 := Sq.addr_lt I h1
  have l2 := Sq.addr_lt I h2
  refine zip_begins2 B1 B2 hHp1 hHp2 fun h' hz hTI hTO g1 g2 hsz hk => hQ h' ?_ ⟨⟨_, _, .inl rfl, hz⟩, hTI, ⟨_, _, hTO⟩, Sq.st0 g1, Sq.st0 g2⟩ hsz hk
  generalize s.heap.objs.size = N at *
  have l3 : ∀ b, b ∈ S1.addr ∨ b ∈ S2.addr → b < N := fun b hb => hb.elim (l1 b) (l2 b)
  have ne : ∀ (i j : Nat), i ≠ j → ((N : Nat) + i : Nat) ≠ N + j := fun i j h => by omega
  refine ⟨ne 2 4 (by decide), ne 3 4 (by decide), ne 2 3 (by decide), ne 2 0 (by decide), ne 2 1 (by decide), ne 4 0 (by decide), ne 4 1 (by decide), ne 3 0 (by decide), ne 3 1 (by decide), ne 0 1 (by decide), fun b hb => ?_⟩
  have := l3 b hb
  have lt : ∀ i : Nat, b ≠ N + i := fun i => Nat.ne_of_lt (Nat.lt_of_lt_of_le this (Nat.le_add_right _ _))
  exact ⟨lt 4, lt 2, lt 3, lt 0, lt 1⟩
def iEz (K : PySem.W.Frag) (ta : TA) : TI := fun σ H R => ta σ H fun vs H1 => ∃ (S1 S2 : Sq) (xs ys : List V), vs = [S1.v, S2.v] ∧ S1.its K H1 xs ∧ S2.its K H1 ys ∧ R (Jez K S1 S2 xs.length ys.length) H1
theorem pi_ez {X : Cx} {tg e e2 : Expr} {ta : TA} {p pos p2 pos2 : Pos} (hge : Gl X "enumerate") (hme : X.mg "enumerate" = none) (hg : Gl X "zip") (hm : X.mg "zip" = none) (ha : PA X [e, e2] ta)
    (hse : starEach [.Call (.Name "zip" p2) [e, e2] [] pos2] X.env = (false, eval (.Call (.Name "zip" p2) [e, e2] [] pos2) X.env) :: starEach [] X.env := by rfl)
    (hs : starEach [e, e2] X.env = (false, eval e X.env) :: starEach [e2] X.env := by rfl) (hpl : (backTo pos2 (starEach [e2] X.env)).any (·.1) = false := by rfl) :
    PI X tg (.Call (.Name "enumerate" p) [.Call (.Name "zip" p2) [e, e2] [] pos2] [] pos) (iEz X.K ta) := by
  refine ⟨fun pins s σ H R I h => ?_⟩
  refine Call_ (ld_blt I hge hme boot_enumerate (PyProof.Rows.callWith_type1 (args_cons ?_ hse) hse rfl))
  refine Call_ (ld_blt I hg hm PyProof.Rows.boot_zip (PyProof.Rows.callWith_type1 (thn (ha.run pos2 pins s σ H _ I h) fun us s1 ⟨vs, H1, I1, r1, q1⟩ => ?_) hs hpl))
  obtain ⟨S1, S2, xs, ys, rfl, h1, h2, q⟩ := q1
  obtain ⟨u1, u2, rfl, ru1, ru2⟩ := vals2 r1
  obtain ⟨t1, rfl⟩ := Sq.rel ru1
  obtain ⟨t2, rfl⟩ := Sq.rel ru2
  have l1 := Sq.addr_lt I1 h1
  have l2 := Sq.addr_lt I1 h2
  refine zi_begun I1 h1 h2 t1 t2 fun h' D st hsz hk => ?_
  refine args_nil ?_
  refine en_begins (H := fun h => ZiA h (s1.heap.objs.size + 4) (s1.heap.objs.size + 2) (s1.heap.objs.size + 3)) (itA := fun _ => s1.heap.objs.size + 4) (grow := fun h => h) (fun prog w A E s Q h q => iter_zi h q) st.1 fun h'' he hsz2 hk2 => ?_
  replace hk2 : ∀ b o, h'.get? b = some o → h''.get? b = some o := hk2
  replace he : EnA h'' h'.objs.size (s1.heap.objs.size + 4) ((0 : Nat) : Int) := he
  show wpAny _ _ (pyIter (.ref h'.objs.size)) _ _ _
  rw [hsz] at he ⊢
  refine iter_en he ?_
  have I2 : Inv X pins σ H1 { s1 with heap := h'' } := I1.kept (t' := s1.toks) fun b o e => hk2 b o (hk b o e)
  have ne : ∀ (i j : Nat), i ≠ j → (s1.heap.objs.size + i : Nat) ≠ s1.heap.objs.size + j := fun i j h => by omega
  refine ⟨s1.heap.objs.size + 5, _, _, _, H1, rfl, I2, turn_ez t1 t2 xs.length ys.length (s1.heap.objs.size + 5) D ⟨ne 5 4 (by decide), ne 5 2 (by decide), ne 5 3 (by decide), ne 5 0 (by decide), ne 5 1 (by decide)⟩ (fun b hb => Nat.ne_of_lt (Nat.lt_of_lt_of_le (hb.elim (l1 b) (l2 b)) (Nat.le_add_right _ _))),
    ⟨Nat.zero_le _, he, st.keep fun b _ o e => hk2 b o e⟩, fun c hcm => ?_, q⟩
  have hle : s1.heap.objs.size ≤ c := by
    have e' : c = s1.heap.objs.size + 5 ∨ c = s1.heap.objs.size + 4 ∨ c = s1.heap.objs.size + 2 ∨ c = s1.heap.objs.size + 3 ∨ c = s1.heap.objs.size ∨ c = s1.heap.objs.size + 1 := by simpa using hcm
    rcases e' with z | z | z | z | z | z
    · rw [z]; exact Nat.le_add_right _ _
    · rw [z]; exact Nat.le_add_right _ _
    · rw [z]; exact Nat.le_add_right _ _
    · rw [z]; exact Nat.le_add_right _ _
    · rw [z]; exact Nat.le_refl _
    · rw [z]; exact Nat.le_add_right _ _
  exact I1.fpOk hle (I1.hok.fresh hle)
section
variable {M : Ghost} {C : Ct M} {W W1 W2 W' : Wd M} {σ : L2.St} {ρ : DEnv} {e : Expr} {we : EW M} {pos p : Pos}
/-- a sequence as a source, for good -/
structure SqD (K : PySem.W.Frag) (W : Wd M) (S : Sq) (vs : List V) (ds : List D) : Prop where
  its : ∀ W', Gs W W' → Wok K W' → S.its K W'.H vs
  rd : RpA K W.F W.R vs ds
theorem sqd_of {K : PySem.W.Frag} {v : V} {d : D} {ds : List D} (k : Wok K W) (r : Rp K W.F W.R v d) (h : itemsOf d = some ds) : ∃ S vs, v = Sq.v S ∧ SqD K W S vs ds := by
  cases d with
  | lst ds' =>
    cases h
    cases r with
    | lst h r2 => exact ⟨.lst _, _, rfl, fun W' g k' => .of (k'.sub _ _ (g.sub _ _ h)), r2⟩
  | tup ds' =>
    cases h
    cases r with
    | tup h r2 => exact ⟨.tup _, _, rfl, fun W' g k' => same_tup k'.sub (same_tup g.sub h), r2⟩
  | str x =>
    cases h
    cases r with
    | str z _ h =>
      subst h
      refine ⟨.str z, z.cps.toList.map fun c => V.str ⟨#[c]⟩, rfl, fun W' g k' => rfl, ?_⟩
      have : ∀ l : List Nat, RpA K W.F W.R (l.map fun c => V.str ⟨#[c]⟩) (l.map fun c => D.str [c]) := fun l => by
        induction l with
        | nil => exact .nil
        | cons c l ih => exact .cons (.str _ _ rfl) ih
      exact this _
  | _ => cases h
theorem SqD.step {K : PySem.W.Frag} {S : Sq} {vs : List V} {ds : List D} (h : SqD K W S vs ds) (g : Go W W1) : SqD K W1 S vs ds := ⟨fun W' g' k' => h.its W' (g.s.trans g') k', h.rd.step g⟩
theorem idx_inj {K : PySem.W.Frag} {S : Sq} {vs : List V} {ds : List D} (h : SqD K W S vs ds) (g : Gs W W1) (k : Wok K W1) {i : Nat} {x : V} {d : D} (hd : ds[i]? = some d) (hx : ∀ xs, S.its K W1.H xs → xs[i]? = some x) : Rp K W1.F W1.R x d := by
  obtain ⟨v, h1, h2⟩ := (h.rd.gs g).get' hd
  have := hx _ (h.its W1 g k)
  rw [h1] at this
  cases this
  exact h2
def enL : Nat → List D → List D
  | _, [] => []
  | n, d :: ds => .tup [.int (n : Nat), d] :: enL (n + 1) ds
theorem enL_get : ∀ (ds : List D) (n i : Nat), (enL n ds)[i]? = (ds[i]?).map fun d => .tup [.int ((n + i : Nat) : Int), d]
  | [], _, _ => by simp [enL]
  | d :: ds, n, 0 => by simp [enL]
  | d :: ds, n, i + 1 => by
    show (enL (n + 1) ds)[i]? = _
    rw [enL_get ds (n + 1) i, show n + 1 + i = n + (i + 1) by omega]
    simp
def zipL (ds es : List D) : List D := (ds.zip es).map fun p => .tup [p.1, p.2]
theorem zip_get {ds es : List D} {i : Nat} {d : D} (h : (zipL ds es)[i]? = some d) : ∃ x y, ds[i]? = some x ∧ es[i]? = some y ∧ d = .tup [x, y] := by
  unfold zipL at h
  rw [List.getElem?_map] at h
  cases hz : (ds.zip es)[i]? with
  | none => rw [hz] at h; cases h
  | some p =>
    rw [hz] at h
    cases h
    have := List.getElem?_zip_eq_some.mp hz
    exact ⟨_, _, this.1, this.2, rfl⟩
theorem zip_none {ds es : List D} {i : Nat} (h : (zipL ds es)[i]? = none) : min ds.length es.length ≤ i := by
  have := List.getElem?_eq_none_iff.mp h
  unfold zipL at this
  rw [List.length_map, List.length_zip] at this
  exact this
theorem wk_ez {K : PySem.W.Frag} {S1 S2 : Sq} {vs us : List V} {ds es : List D} (h1 : SqD K W S1 vs ds) (h2 : SqD K W S2 us es) : WK K W (Jez K S1 S2 vs.length us.length) (enL 0 (zipL ds es)) where
  go := fun i W1 d g k e => by
    rw [enL_get, Nat.zero_add] at e
    cases hd : (zipL ds es)[i]? with
    | none => rw [hd] at e; cases e
    | some d0 =>
      rw [hd] at e
      cases e
      obtain ⟨x, y, hx, hy, rfl⟩ := zip_get hd
      have l1 : i < vs.length := by rw [h1.rd.length]; exact (List.getElem?_eq_some_iff.mp hx).1
      have l2 : i < us.length := by rw [h2.rd.length]; exact (List.getElem?_eq_some_iff.mp hy).1
      refine ⟨⟨by omega, vs, us, h1.its W1 g k, rfl, h2.its W1 g k, rfl⟩, fun v H' yy => ?_⟩
      obtain ⟨T, U, xv, yv, rfl, hT, hU, hTU, rfl, gx, gy⟩ := yy
      have r1 := idx_inj h1 g k hx gx
      have r2 := idx_inj h2 g k hy gy
      have k1 := k.lay (o := .tup [xv, yv]) hT
      have hU1 : (W1.lay T (.tup [xv, yv])).H U = none := (upd_ne (Ne.symm hTU)).trans hU
      have m1 := same_new (o := .tup [xv, yv]) (k.noF hT)
      have m2 := same_new (o := .tup [.int (i : Nat), .ref T]) (k1.noF hU1)
      refine ⟨(W1.lay T (.tup [xv, yv])).lay U (.tup [.int (i : Nat), .ref T]), rfl, (Go.lay k hT).trans (Go.lay k1 hU1), k1.lay hU1, rfl, .tup (.of upd_same) (.cons (.int _) (.cons (.tup (.of (m2 _ _ upd_same)) ?_) .nil))⟩
      exact (RpA.cons (r1.mono m1 fun _ _ z => z) (.cons (r2.mono m1 fun _ _ z => z) .nil)).mono m2 fun _ _ z => z
  stop := fun i W1 g k e => by
    rw [enL_get, Nat.zero_add] at e
    refine ⟨?_, vs, us, h1.its W1 g k, rfl, h2.its W1 g k, rfl⟩
    rw [h1.rd.length, h2.rd.length]
    cases hd : (zipL ds es)[i]? with
    | none => exact zip_none hd
    | some d0 => rw [hd] at e; cases e
@[simp] def wEnZip (wa wb : EW M) : IW M := fun ρ g q => wa ρ g fun d g1 => wb ρ g1 fun e g2 => ∃ ds es, itemsOf d = some ds ∧ itemsOf e = some es ∧ q (enL 0 (zipL ds es)) g2
variable {a b : Expr} {wa wb : EW M} {p2 pos2 : Pos}
theorem di_enzip {tg : Expr} (hme : C.X.mg "enumerate" = none) (hm : C.X.mg "zip" = none) (ha : DE C a wa) (hb : DE C b wb) (hge : Gl C.X "enumerate" := by rfl) (hg : Gl C.X "zip" := by rfl)
    (hse : starEach [.Call (.Name "zip" p2) [a, b] [] pos2] C.X.env = (false, eval (.Call (.Name "zip" p2) [a, b] [] pos2) C.X.env) :: starEach [] C.X.env := by rfl) (hs : starEach [a, b] C.X.env = (false, eval a C.X.env) :: starEach [b] C.X.env := by rfl) (hs2 : starEach [b] C.X.env = (false, eval b C.X.env) :: starEach [] C.X.env := by rfl)
    (hpl : (backTo pos2 (starEach [b] C.X.env)).any (·.1) = false := by rfl) : DI C tg (.Call (.Name "enumerate" p) [.Call (.Name "zip" p2) [a, b] [] pos2] [] pos) (wEnZip wa wb) := ⟨fun σ ρ W R q S hR hw => iOf_of (pi_ez hge hme hg hm (pa_cons pe_tOf (pa_cons pe_tOf pa_nil hs2) hs) hse hs hpl)
  (ha.run σ ρ W _ _ S (fun v d W1 g1 k1 r1 q1 => hb.run σ ρ W1 _ _ (S.step g1 k1) (fun u e W2 g2 k2 r2 q2 => by
  obtain ⟨ds, es, hd, he, q2⟩ := q2
  obtain ⟨S1, vs, rfl, s1⟩ := sqd_of k2 (r1.step g2) hd
  obtain ⟨S2, us, rfl, s2⟩ := sqd_of k2 r2 he
  exact ⟨S1, S2, vs, us, rfl, s1.its W2 (Gs.refl _) k2, s2.its W2 (Gs.refl _) k2, hR _ _ W2 (g1.trans g2) k2 (wk_ez s1 s2) q2⟩) q1) hw)⟩
end
end DL
set_option Elab.async false
set_option linter.all false
set_option maxRecDepth 100000
set_option maxHeartbeats 1000000
namespace DL
open PySem PySem.Spec PyProof.Rows L2
section
variable {X : Cx} {pins : List (Addr × Obj)} {σ : L2.St}
end
section
variable {M : Ghost} {C : Ct M} {W W1 W2 W' : Wd M} {σ : L2.St} {ρ : DEnv} {e : Expr} {we : EW M} {pos p : Pos}
variable {a b : Expr} {wa wb : EW M} {p2 pos2 : Pos}
end
end DL
set_option Elab.async false
set_option linter.all false
set_option maxRecDepth 100000
set_option maxHeartbeats 1000000
namespace DL
open PySem L2 StX
section
variable {M : Ghost} {C : Ct M} {W W1 W2 W' : Wd M} {σ : L2.St} {ρ : DEnv} {e : Expr} {es : List Expr} {we : EW M} {pos p : Pos} {wa : AW M}

def tyN : D → Option String
  | .non => some "NoneType"
  | .bl _ => some "bool"
  | .int _ => some "int"
  | .str _ => some "str"
  | .lst _ => some "list"
  | .tup _ => some "tuple"
  | .dic _ => some "dict"
  | .ob _ => none
  | .exn _ _ _ => none
  | .tx _ => none
  | .cl _ => none
def isTyp (t T : String) : Bool := t == T || (t == "bool" && T == "int")
def isiD (T : String) (d : D) (q : D → Prop) : Prop := ∃ t, tyN d = some t ∧ q (.bl (isTyp t T))
def cInt : List D → (D → Prop) → Prop
  | [.int i], q => q (.int i)
  | [.bl b], q => q (.int (if b then 1 else 0))
  | [.str x], q => ∃ n, PySem.intText? (S x) = some n ∧ x.length ≤ 640 ∧ q (.int n)
  | _, _ => False
/-- the signs of a number -/
def dec (i : Int) : List Nat := (Str.ofString (toString i)).cps.toList
def cStr : List D → (D → Prop) → Prop
  | [.int i], q => i.natAbs.log2 < 1920 ∧ q (.str (dec i))
  | _, _ => False
def flatD : D → Bool
  | .non => true
  | .bl _ => true
  | .int _ => true
  | .str _ => true
  | _ => false
def eqF : D → D → Bool
  | .non, .non => true
  | .bl a, .bl b => a == b
  | .bl a, .int b => (if a then 1 else 0) == b
  | .int a, .bl b => a == (if b then 1 else 0)
  | .int a, .int b => a == b
  | .str a, .str b => a == b
  | _, _ => false
theorem str_beq (z z2 : Str) : (z == z2) = (z.cps.toList == z2.cps.toList) := by
  have : (z == z2) = decide (z = z2) := by
    cases h : decide (z = z2) with
    | true => exact (by simpa using h)
    | false => exact (by simpa using h)
  rw [this, Bool.beq_eq_decide_eq]
  refine decide_eq_decide.mpr ⟨fun h => by rw [h], fun h => ?_⟩
  obtain ⟨a⟩ := z
  obtain ⟨b⟩ := z2
  rw [show a = b from Array.toList_inj.mp h]
def oInB (f : Bool → Bool) : D → D → (D → Prop) → Prop
  | .str [c], .str z, q => q (.bl (f (decide (c ∈ z))))
  | d, .lst ds, q => flatD d = true ∧ ds.all flatD = true ∧ q (.bl (f (ds.any fun y => eqF y d)))
  | d, .tup ds, q => flatD d = true ∧ ds.all flatD = true ∧ q (.bl (f (ds.any fun y => eqF y d)))
  | _, _, _ => False
def oIn := oInB id
def oNotIn := oInB not
variable {a b c : Expr} {wx wy wz : EW M} {r r' : D → D → (D → Prop) → Prop}
variable {e2 : Expr} {apos cpos p1 : Pos}
@[simp] def wExt (i : Nat) (we : EW M) : SW M := fun k ρ g => ∃ ds, ρ[i]? = some (.own ds) ∧ we ρ g fun d g' => ∃ es, d = .lst es ∧ ds.length + es.length ≤ sizeLine ∧ k.nx (ρ.set i (.own (ds ++ es))) g'
theorem ds_extend {i : Nat} {x : Str} (hv : PE C.X (.Name x p1) (tVar i)) (he : DE C e we) (hline : (apos.endLine == cpos.line) = true := by rfl)
    (hs : swapsWith (.Call (.Attribute (.Name x p1) "extend" apos) [e] [] cpos) none pos.line C.X.env = pure false := by rfl)
    (hst : starEach [e] C.X.env = (false, eval e C.X.env) :: starEach [] C.X.env := by rfl) (hbase : attributeBase (.Name x p1) "extend" C.X.env (eval (.Name x p1) C.X.env) = eval (.Name x p1) C.X.env := by rfl)
    (hpl : (backTo cpos (starEach [] C.X.env)).any (·.1) = false := by rfl)
    (hfew : ((backTo cpos (starEach [e] C.X.env)).all (fun x => !x.1) && (backToKw cpos (keywordEach [] C.X.env)).all (fun x => x.1.isSome) && decide ([e].length + ([] : List Keyword).length + (if ([] : List Keyword).isEmpty then 0 else 1) < 30)) = true := by rfl) :
    DS C (.Expr (.Call (.Attribute (.Name x p1) "extend" apos) [e] [] cpos) pos) (wExt i we) := ⟨fun σ ρ W k E S l h => by
  obtain ⟨ds, e0, h⟩ := h
  obtain ⟨o, h1, p, vs, h2, h3, h4, h5, h6, r⟩ := S.sl i _ e0
  subst h2
  refine tsOf_of (ps_expr (pe_bm PySem.F.plainAttrs_list PySem.F.slot_list_extend PySem.F.type_list_extend mt_extend hv (pa_cons pe_tOf pa_nil hst) hbase hfew hline hst hpl) hs) ⟨.ref p, h1, .inl ⟨rfl, vs, .of h3⟩, ?_⟩
  refine he.run σ ρ W _ _ S (fun v d W1 g1 k1 r1 q1 => ?_) h
  obtain ⟨es, rfl, hz, q1⟩ := q1
  have S1 := S.step g1 k1
  obtain ⟨o2, a1, p2, vs2, a2, a3, a4, a5, a6, r2⟩ := S1.sl i _ e0
  subst a2
  rw [h1] at a1
  cases a1
  have ev : vs2 = vs := by
    have := g1.keep _ _ h3 h5
    rw [a3] at this
    cases this
    rfl
  subst ev
  cases r1 with
  | lst hb rb =>
    rename_i ab ub
    obtain ⟨S2, g2⟩ := S1.write e0 h1 (r2.append rb)
    exact ⟨p, ab, vs2, ub, rfl, rfl, a3, k1.sub _ _ hb, by rw [r2.length, rb.length]; exact hz, l.nx _ _ _ (g1.s.trans g2) S2 q1⟩⟩

end
end DL
set_option Elab.async false
set_option linter.all false
set_option maxRecDepth 100000
set_option maxHeartbeats 1000000
namespace DL
open PySem PySem.Spec PyProof.Rows L2
section
variable {prog : Program} {w : World} {A : Around} {E : Value → Shared → Prop} {s : Shared}
theorem places_rev (n : Nat) : Builtin.Slice.slicePlaces ((n : Int) - 1) (-1) (-1) = n := by
  unfold Builtin.Slice.slicePlaces
  have h1 : ¬ ((-1 : Int) > 0) := by decide
  rw [if_neg h1]
  have e : (-(-1 : Int)) = 1 := by decide
  rw [e, Int.ediv_one]
  split <;> omega
theorem applied_rev {sl : Addr} {vs : Value} {n : Nat} {Q : Int × Int × Nat → Shared → Prop} (hs : s.heap.IsSliceOf sl .none .none vs) (ps : IsPart vs (some (-1)))
    (h : Q ((n : Int) - 1, -1, n) s) : wpAny (model prog w) A (Builtin.Slice.sliceApplied (.ref sl) (pure (n : Int))) Q E s := by
  obtain ⟨os, hos, hcs, hds⟩ := id hs
  unfold Builtin.Slice.sliceApplied Builtin.Slice.sliceFields
  refine wpAny_bind (wpAny_bind (wpAny_field hos hds (x := .none) rfl (wpAny_bind (wpAny_field hos hds (x := .none) rfl (wpAny_bind (wpAny_field hos hds (x := vs) rfl (wpAny_pure ?_)))))))
  refine wpAny_bind (HT.slicePart_ ps ?_)
  show wpAny _ _ (if ((-1 : Int) == 0) = true then _ else _) _ _ s
  rw [if_neg (by decide)]
  refine wpAny_bind (slicePart_none (wpAny_bind (slicePart_none (wpAny_bind (wpAny_pure ?_)))))
  show wpAny _ _ (pure ((n : Int) - 1, (-1 : Int), Builtin.Slice.slicePlaces ((n : Int) - 1) (-1) (-1))) _ _ s
  rw [places_rev]
  exact wpAny_pure h
theorem pick_rev (xs : Array Value) : ((List.range xs.size).filterMap fun (m : Nat) => xs[(((xs.size : Int) - 1) + (m : Int) * -1).toNat]?).toArray = xs.toList.reverse.toArray := by
  have e : ((List.range xs.size).filterMap fun (m : Nat) => xs[(((xs.size : Int) - 1) + (m : Int) * -1).toNat]?) = (List.range xs.size).filterMap fun m => xs[xs.size - 1 - m]? := by
    have f : ∀ l : List Nat, (∀ m ∈ l, m < xs.size) → (l.filterMap fun (m : Nat) => xs[(((xs.size : Int) - 1) + (m : Int) * -1).toNat]?) = l.filterMap fun m => xs[xs.size - 1 - m]? := fun l => by
      induction l with
      | nil => intro _; rfl
      | cons m l ih =>
        intro h
        have hm := h m List.mem_cons_self
        have e1 : (((xs.size : Int) - 1) + (m : Int) * -1).toNat = xs.size - 1 - m := by omega
        rw [List.filterMap_cons, List.filterMap_cons, e1, ih fun x hx => h x (List.mem_cons_of_mem _ hx)]
    exact f _ fun m hm => List.mem_range.mp hm
  rw [e]
  have e2 : (List.range xs.size).filterMap (fun m => xs[xs.size - 1 - m]?) = ((List.range xs.size).map fun k => xs.size - 1 - k).filterMap (xs[·]?) := by
    rw [List.filterMap_map]
    rfl
  rw [e2, PySem.W.krv_range, List.filterMap_reverse, PySem.W.krv_all]
theorem getItem_tuple_rev {t sl : Addr} {items : Array Value} {vs : Value} {Q : Value → Shared → Prop} (ht : IsTup s.heap t items) (hs : s.heap.IsSliceOf sl .none .none vs) (ps : IsPart vs (some (-1)))
    (h : Q (.ref s.heap.objs.size) { s with heap := s.heap.push { cls := .type "tuple", data := .seq items.toList.reverse.toArray } }) (hsz : items.size ≤ sizeLine) : wpAny (model prog w) A (getItem (.ref t) (.ref sl)) Q E s := by
  have htake : sizeOk (.seq items.toList.reverse.toArray) := by
    show items.toList.reverse.toArray.size ≤ sizeLine
    simpa using hsz
  obtain ⟨os, hos, hcs, hds⟩ := id hs
  have hTs : s.TypeIs (.ref sl) "slice" := ⟨os, hos, hcs⟩
  unfold getItem
  try with_reducible refine wpAny_holding ?_
  first | refine wpAny_bind (wpAny_pure ?_) | skip
  refine wpAny_bind (wpAny_sequenceKey ht.typeIs (by decide) ?_)
  refine wpAny_bind (wpAny_callSpecial?_slot (name := Str.ofString "__getitem__") ht.typeIs PyProof.Rows.slot_tuple_getitem
    (wpAny_call_entry PyProof.Rows.slot_tuple_getitem ht.typeIs entry_tuple_getitem ?_ (args_tuple_getitem _ _)))
  show wpAny _ _ (Builtin.Tuple.tupleItemsOf (.ref t) >>= _) _ _ s
  refine wpAny_bind (tupleItemsOf_ ht ?_)
  refine wpAny_bind (wpAny_typeOf hTs ?_)
  rw [if_pos (by decide)]
  refine wpAny_bind (applied_rev hs ps ?_)
  have hno : ¬ (((items.size : Int) - 1 == 0 && (-1 : Int) == 1 && items.size == items.size) = true) := by
    intro q
    rw [Bool.and_eq_true, Bool.and_eq_true] at q
    have := q.1.2
    cases this
  show wpAny _ _ (if ((items.size : Int) - 1 == 0 && (-1 : Int) == 1 && items.size == items.size) = true then _ else _) _ _ s
  rw [if_neg hno, pick_rev]
  first
    | exact wpAny_bind (m := Builtin.Tuple.tupleExact _) (wpAny_newObj_type (wpAny_pure ⟨_, rfl, wpAny_pure h⟩) htake)
    | exact wpAny_bind (m := Builtin.Tuple.tupleExact _) (wpAny_newObj_type (wpAny_bind (wpAny_pure (wpAny_pure ⟨_, rfl, wpAny_pure h⟩))) htake)
    | exact wpAny_bind (wpAny_bind (m := Builtin.Tuple.tupleExact _) (wpAny_newObj_type (wpAny_pure (wpAny_pure ⟨_, rfl, wpAny_pure h⟩)) htake))
    | exact wpAny_bind (wpAny_bind (m := Builtin.Tuple.tupleExact _) (wpAny_newObj_type (wpAny_pure ⟨_, rfl, wpAny_pure h⟩) htake))
end
def tRevT (K : PySem.W.Frag) (te : TE) : TE := fun σ H Q => te σ H fun x H1 => ∃ a xs, x = .ref a ∧ ((SqL K H1 a xs ∧ ∀ p, H1 p = none → Q (.ref p) (upd H1 p (.lst xs.reverse))) ∨ (SqT K H1 a xs ∧ ∀ p, H1 p = none → Q (.ref p) (upd H1 p (.tup xs.reverse))))
theorem pe_revT {X : Cx} {e : Expr} {te : TE} {k : Nat} {p1 p2 p3 pos : Pos} (he : PE X e te) : PE X (.Subscript e (.Slice none none (some (.UnaryOp .USub (.Constant (.int 1) k p1) p2)) p3) pos) (tRevT X.K te) := by
  refine ⟨fun pins s σ H Q I h => ?_⟩
  refine Subscript_ (thn (he.run pins s σ H _ I h) fun v s1 ⟨x, H1, I1, r1, q1⟩ => ?_)
  obtain ⟨a, xs, ex, hx⟩ := q1
  subst ex
  cases r1
  have hst : PO X (some (.UnaryOp .USub (.Constant (.int 1) k p1) p2)) (tPart (tUn (rU fun i => .int (-i)) (tC (.int 1)))) := po_some (pe_un un_neg pe_int)
  refine wpAny_Slice (thn (po_none.run pins s1 σ H1 (fun o H2 => o = none ∧ H2 = H1) I1 ⟨rfl, rfl⟩) fun vl s2 ⟨l, H2, I2, pl, el, e2⟩ => ?_)
  subst el e2
  refine thn (po_none.run pins s2 σ H2 (fun o H3 => o = none ∧ H3 = H2) I2 ⟨rfl, rfl⟩) fun vu s3 ⟨u, H3, I3, pu, eu, e3⟩ => ?_
  subst eu e3
  refine thn (hst.run pins s3 σ H3 (fun o H4 => o = some (-1) ∧ H4 = H3) I3 ⟨1, rfl, -1, rfl, rfl, rfl⟩) fun vs s4 ⟨o, H4, I4, ps, eo, e4⟩ => ?_
  subst eo e4
  have I5 : Inv X pins σ H4 { s4 with heap := s4.heap.push { cls := .type "slice", data := .fields #[vl, vu, vs] } } := I4.kept (t' := s4.toks) fun b ob q => Heap.get?_push_of_some _ q
  show wpAny (model X.prog X.w) X.A (subscriptTail e (.Slice none none (some (.UnaryOp .USub (.Constant (.int 1) k p1) p2)) p3) (.ref a) (.ref s4.heap.objs.size)) (EP X pins σ Q) X.xe { s4 with heap := s4.heap.push { cls := .type "slice", data := .fields #[vl, vu, vs] } }
  rcases hx with ⟨hx, q⟩ | ⟨hx, q⟩
  · obtain ⟨its, r, ht, hz⟩ := I5.list hx
    have hlen := r.length
    refine tail_any (ops := [.ref a, .ref s4.heap.objs.size]) ht.isList.typeIs (PySem.slot_list_getitem.lookup) ?_ (by with_unfolding_all rfl)
    refine wpAny_getItem_list_slice ht.isList (Heap.IsSliceOf.new _ vl vu vs) pl pu ps (by decide) ?_ (by rw [List.size_toArray]; omega)
    rw [PySem.W.krv_pick]
    refine ⟨.ref _, _, I5.laid (t' := s4.toks) (o := .lst xs.reverse) (fun b ob q => Heap.get?_push_of_some _ q) (Nat.le_refl _) ?_, rfl, q _ (I5.hok.fresh (Nat.le_refl _))⟩
    exact ⟨by rw [List.length_reverse]; exact hz, _, 0, r.reverse, Heap.get?_push_size _ rfl⟩
  · obtain ⟨its, r, ht, hz⟩ := I5.tuple hx
    have hlen := r.length
    refine tail_any (ops := [.ref a, .ref s4.heap.objs.size]) (T := "tuple") ht.typeIs (PyProof.Rows.slot_tuple_getitem.lookup) ?_ (by with_unfolding_all rfl)
    cases pl
    cases pu
    refine getItem_tuple_rev ht (Heap.IsSliceOf.new _ .none .none vs) ps ?_ (by rw [List.size_toArray]; omega)
    refine ⟨.ref _, _, I5.laid (t' := s4.toks) (o := .tup xs.reverse) (fun b ob q => Heap.get?_push_of_some _ q) (Nat.le_refl _) ?_, rfl, q _ (I5.hok.fresh (Nat.le_refl _))⟩
    exact ⟨by rw [List.length_reverse]; exact hz, _, r.reverse, IsTup.new _ _⟩
section
variable {M : Ghost} {C : Ct M} {W W1 W2 W' : Wd M} {σ : L2.St} {ρ : DEnv} {e : Expr} {es : List Expr} {we : EW M} {pos p : Pos} {wa : AW M}
theorem RpA.rev {K : PySem.W.Frag} {F : Hp} {R : List Addr} : ∀ {vs : List V} {ds : List D}, RpA K F R vs ds → RpA K F R vs.reverse ds.reverse
  | _, _, .nil => .nil
  | _, _, .cons r t => by
    rw [List.reverse_cons, List.reverse_cons]
    exact (RpA.rev t).append (.cons r .nil)
def oRev (d : D) (q : D → Prop) : Prop := match d with
  | .lst ds => q (.lst ds.reverse)
  | .tup ds => q (.tup ds.reverse)
  | _ => False
def oRevN (d : D) (q : List D → Prop) : Prop := match d with
  | .lst ds => q ds.reverse
  | _ => False
@[simp] def wRevN (we : EW M) : NW M := fun ρ g q => we ρ g fun d g' => oRevN d fun r => q r g'
variable {k1 : Nat} {p1 p2 p3 : Pos}
theorem dn_rev (he : DP C e we) : DN C (.Subscript e (.Slice none none (some (.UnaryOp .USub (.Constant (.int 1) k1 p1) p2)) p3) pos) (wRevN we) := ⟨fun σ ρ W Q q S hQ hw =>
  tOf_of (pe_revT pe_tOf) (he.run σ ρ W _ _ S (fun v d W1 g1 k1 r1 q1 => by
    cases d with
    | lst ds =>
      obtain ⟨p, vs, rfl, hp, np, ra⟩ := r1.lst_inv k1
      exact ⟨p, vs, rfl, .inl ⟨.of hp, fun t ht => hQ t _ _ (W1.new t (.lst vs.reverse)) (g1.trans (Go.new k1 ht)) (k1.new ht) upd_same (k1.noF ht) (k1.noR ht) (nofresh g1 ht) ra.rev q1⟩⟩
    | _ => exact q1.elim) hw)⟩

variable {a b : Expr} {wx wy : EW M} {p4 pos2 : Pos}
end
section
variable {M : Ghost} {C : Ct M} {W W1 W2 W' : Wd M} {σ : L2.St} {ρ : DEnv}
variable {pos : Pos}
end
end DL
set_option Elab.async false
set_option linter.all false
set_option maxRecDepth 100000
set_option maxHeartbeats 1000000
namespace DL
open PySem L2
section
variable {K : PySem.W.Frag}
/-- the class that a name of the text tells -/
inductive CN (K : PySem.W.Frag) : Str → Value → Prop
  | own {x : Str} {C : Addr} : PySem.W.nsIn K mainGlobals x = some (some (.ref C)) → CN K x (.ref C)
  | ty {x : Str} {T : String} : PySem.W.nsIn K mainGlobals x = some none → bootBuiltins x = some (.type T) → x ≠ "__name__" → CN K x (.type T)
end
section
variable {X : Cx} {pos : Pos}
/-- a class as a value -/
def clsV : Value → V
  | .ref C => .ref C
  | .type T => .ty T
  | _ => .non
theorem CN.rel {K : PySem.W.Frag} {x : Str} {c : Value} (h : CN K x c) : RelV (clsV c) c ∧ ClsV (clsV c) c := by
  cases h with
  | own => exact ⟨rfl, .own _⟩
  | ty => exact ⟨rfl, .ty _⟩
theorem CN.names {x : Str} {c : Value} (h : CN X.K x c) {pins : List (Addr × Obj)} {σ : L2.St} {H : Hp} {s : Shared} (I : Inv X pins σ H s) : X.mg x = some c ∨ (X.mg x = none ∧ bootBuiltins x = some c ∧ x ≠ "__name__") := by
  cases h with
  | own e => exact .inl (PySem.W.mg_of I.mod.kin I.mod.glob e)
  | ty e b n => exact .inr ⟨PySem.W.mg_none_of I.mod.kin I.mod.glob e, b, n⟩
end
section
variable {M : Ghost} {C : Ct M} {W W1 W2 W' : Wd M} {σ : L2.St} {ρ : DEnv} {e : Expr} {es : List Expr} {we : EW M} {pos p : Pos} {wa : AW M}
end
end DL
set_option Elab.async false
set_option linter.all false
set_option maxRecDepth 100000
set_option maxHeartbeats 4000000
namespace DL
open PySem L2 PySem.W PySem.Calls PyProof.Rows PySem.HandSPX Builtin Builtin.ObjectAttr
section
variable {prog : Program} {w : World} {A : Around} {E : Value → Shared → Prop} {R : Result → Shared → Prop} {s : Shared} {K : Frag} {n f : Str} {B newId initId : String} {bmB : List Value} {C fI : Addr} {q : Str}
end
section
variable {X : Cx} {n f : Str}
end
section
variable {M : Ghost} {C : Ct M} {W W1 W2 W' : Wd M} {σ : L2.St} {ρ : DEnv} {e : Expr} {es : List Expr} {we : EW M} {pos p pos2 : Pos} {n f : Str}
end
end DL
set_option Elab.async false
set_option linter.all false
set_option maxRecDepth 100000
set_option maxHeartbeats 4000000
namespace DL
open PySem L2 PySem.W PySem.Calls PyProof.Rows
section
variable {X : Cx} {pins : List (Addr × Obj)} {σ : L2.St} {H : Hp} {s : Shared}
end

section
variable {M : Ghost} {C : Ct M} {W W1 W2 W' : Wd M} {σ : L2.St} {ρ : DEnv} {pos : Pos}
end
section
variable {K : Frag} {n x f : Str} {b d : Bool} {ms : List Str} {tab : List (Str × Bool)} {ns : List Str}
end
section
variable {M : Ghost} {C : Ct M} {W W1 W2 W' : Wd M} {σ : L2.St} {ρ : DEnv} {pos : Pos}
end
end DL
set_option Elab.async false
set_option linter.all false
set_option maxRecDepth 100000
set_option maxHeartbeats 1000000
namespace DL
open PySem L2
section
variable {X : Cx}
end
section
variable {M : Ghost} {C : Ct M} {W W1 W2 W' : Wd M} {σ : L2.St} {ρ : DEnv} {e o : Expr} {es : List Expr} {we wo : EW M} {pos apos : Pos} {wa : AW M}
def oNil (f : Bool → Bool) : D → D → (D → Prop) → Prop
  | .lst x, .lst [], q => q (.bl (f x.isEmpty))
  | _, _, _ => False
def oNilT (f : Bool → Bool) : D → D → (D → Prop) → Prop
  | .tup x, .tup [], q => q (.bl (f x.isEmpty))
  | _, _, _ => False
@[simp] theorem sm_nilT {f : Bool → Bool} {ds : List D} {q : D → Prop} : oNilT f (.tup ds) (.tup []) q = q (.bl (f ds.isEmpty)) := rfl
@[simp] theorem sm_nil {f : Bool → Bool} {ds : List D} {q : D → Prop} : oNil f (.lst ds) (.lst []) q = q (.bl (f ds.isEmpty)) := rfl
end
end DL
set_option Elab.async false
set_option linter.all false
set_option maxRecDepth 100000
set_option maxHeartbeats 1000000
namespace DL
open PySem L2 PySem.W
section
variable {K : Frag}
end
end DL
set_option Elab.async false
set_option linter.all false
set_option maxRecDepth 100000
set_option maxHeartbeats 1000000
namespace DL
open PySem L2 PySem.W
section
variable {X : Cx}
end
section
variable {M : Ghost} {C : Ct M}
def cListX : List D → (List D → Prop) → Prop
  | [.lst ds], q => q ds
  | [.tup ds], q => q ds
  | [.str x], q => x.length ≤ sizeLine ∧ q (x.map fun c => .str [c])
  | _, _ => False
@[simp] theorem sm_listX1 {ds : List D} {qn : List D → Prop} : (cListX [.lst ds] qn) = (qn ds) := rfl
@[simp] theorem sm_listX2 {ds : List D} {qn : List D → Prop} : (cListX [.tup ds] qn) = (qn ds) := rfl
@[simp] theorem sm_listX3 {x : List Nat} {qn : List D → Prop} : (cListX [.str x] qn) = (x.length ≤ sizeLine ∧ qn (x.map fun c => .str [c])) := rfl
end
end DL
set_option Elab.async false
set_option linter.all false
set_option maxRecDepth 100000
set_option maxHeartbeats 1000000
namespace DL
open PySem L2
section
variable {M : Ghost} {C : Ct M} {W W1 W2 W' : Wd M} {σ : L2.St} {ρ : DEnv} {e : Expr} {we : EW M} {pos : Pos}
end
end DL
set_option Elab.async false
set_option linter.all false
set_option maxRecDepth 100000
set_option maxHeartbeats 4000000
namespace L2
open PySem PySem.Spec PyProof.Rows
section
variable {X : Cx}
end
end L2
namespace DL
open PySem L2
section
variable {M : Ghost} {C : Ct M}
def oMulT : D → D → (D → Prop) → Prop
  | .tup x, .int j, q => x ≠ [] ∧ 0 ≤ j ∧ j ≤ 1000 ∧ x.length ≤ 1000 ∧ q (.tup (List.replicate j.toNat x).flatten)
  | _, _, _ => False
@[simp] theorem sm_mulT {ds : List D} {j : Int} {q : D → Prop} : (oMulT (.tup ds) (.int j) q) = (ds ≠ [] ∧ 0 ≤ j ∧ j ≤ 1000 ∧ ds.length ≤ 1000 ∧ q (.tup (List.replicate j.toNat ds).flatten)) := rfl
end
end DL
set_option Elab.async false
set_option linter.all false
set_option maxRecDepth 100000
set_option maxHeartbeats 1000000
namespace DL
open PySem L2
section
variable {M : Ghost} {C : Ct M} {W W1 W2 W' : Wd M} {σ : L2.St} {ρ : DEnv} {e e1 e2 : Expr} {we w1 w2 wi : EW M} {pos p1 p2 s1 s2 apos cpos : Pos}
end
end DL
set_option Elab.async false
set_option linter.all false
set_option maxRecDepth 100000
set_option maxHeartbeats 3200000
namespace DL
open PySem L2
def kyE (e : Int × Value) : Key := match e.2 with
  | .int i _ => .inl i
  | .str x _ => .inr x
  | _ => .inl 0
theorem kyE_is {k : Key} {e : Int × Value} (h : keyIs k e.2 = true) : kyE e = k := by
  obtain ⟨z, v⟩ := e
  rcases keyIs_shape h with ⟨i, u, rfl, rfl⟩ | ⟨x, u, rfl, rfl⟩ <;> rfl
/-- the set at an address, of these members -/
structure MSet (P : Program) (w : World) (h : Heap) (a : Addr) (o : Obj) (es : Array (Int × Value)) (ep : Nat) (tb : SetTable) (L : List Key) : Prop where
  at_ : h.get? a = some o
  ex : o.ExactSet
  dat : o.data = .set es ep tb
  el : ElemsOf (mixKind P w) es.toList
  ks : (es.toList.map kyE).Perm L
  nd : L.Nodup
  few : es.size < scanBound
  fit : tb.fits es.size = true
  ris : Ris tb.place.toList
  led : w.params.followText "set-order" = true ∨ tb.led = true
def IsM (P : Program) (w : World) (h : Heap) (a : Addr) (L : List Key) : Prop := ∃ o es ep tb, MSet P w h a o es ep tb L
section
variable {P : Program} {w : World} {A : Around} {E : Value → Shared → Prop} {s : Shared} {a : Addr} {L : List Key} {k : Key} {v : Value}
theorem MSet.size {h : Heap} {o : Obj} {es : Array (Int × Value)} {ep : Nat} {tb : SetTable} (M : MSet P w h a o es ep tb L) : es.size = L.length := by
  have := M.ks.length_eq
  rw [List.length_map, Array.length_toList] at this
  exact this
theorem MSet.mem {h : Heap} {o : Obj} {es : Array (Int × Value)} {ep : Nat} {tb : SetTable} (M : MSet P w h a o es ep tb L) (j : Key) : j ∈ L ↔ ∃ e ∈ es.toList, keyIs j e.2 = true := by
  rw [← M.ks.mem_iff, List.mem_map]
  constructor
  · rintro ⟨e, he, rfl⟩
    obtain ⟨⟨j, hj, _⟩, _⟩ := M.el e he
    exact ⟨e, he, by rw [kyE_is hj]; exact hj⟩
  · rintro ⟨e, he, hj⟩
    exact ⟨e, he, kyE_is hj⟩
theorem IsM.keep {h h' : Heap} (R : IsM P w h a L) (k : ∀ o, h.get? a = some o → h'.get? a = some o) : IsM P w h' a L := by
  obtain ⟨o, es, ep, tb, M⟩ := R
  exact ⟨o, es, ep, tb, k o M.at_, M.ex, M.dat, M.el, M.ks, M.nd, M.few, M.fit, M.ris, M.led⟩
theorem IsM.fresh (h : Heap) : IsM P w (h.push { cls := .type "set", dict := none, data := .set #[] 0 (.fresh 0 0 (!w.params.followText "set-order")) }) h.objs.size [] := by
  refine ⟨_, #[], 0, _, Heap.get?_push_size _ rfl, ⟨rfl, rfl, rfl⟩, rfl, fun e he => by simp at he, by simp, List.nodup_nil, by decide, by rfl, List.Pairwise.nil, ?_⟩
  cases z : w.params.followText "set-order"
  · exact .inr rfl
  · exact .inl rfl
end

section
variable {X : Cx}
end

section
variable {M : Ghost} {C : Ct M} {e : Expr} {wA : AW M} {p p2 pos pos2 : Pos}
end
end DL
set_option Elab.async false
set_option linter.all false
set_option maxRecDepth 100000
set_option maxHeartbeats 1000000
namespace DL
open PySem L2
section
variable {M : Ghost} {C : Ct M}
def oIsTB (f : Bool → Bool) : D → D → (D → Prop) → Prop
  | .bl a, .bl b, q => q (.bl (f (decide (a = b))))
  | _, _, _ => False
def oIsT := oIsTB id
def oNotT := oIsTB not
@[simp] theorem sm_isT {a b : Bool} {q : D → Prop} : (oIsT (.bl a) (.bl b) q) = (q (.bl (decide (a = b)))) := rfl
@[simp] theorem sm_notT {a b : Bool} {q : D → Prop} : (oNotT (.bl a) (.bl b) q) = (q (.bl (!decide (a = b)))) := rfl
end
end DL
set_option Elab.async false
set_option linter.all false
set_option maxRecDepth 100000
set_option maxHeartbeats 1000000
namespace DL
open PySem L2
section
variable {M : Ghost} {C : Ct M} {o e : Expr} {wo we : EW M} {apos pos : Pos}
end
end DL
set_option Elab.async false
set_option linter.all false
set_option maxRecDepth 100000
set_option maxHeartbeats 1000000
namespace DL
open PySem L2
def valD (kds : List (Key × D)) (k : Key) : Option D := (kds.find? fun kv => decide (kv.1 = k)).map (·.2)
def putD (kds : List (Key × D)) (k : Key) (d : D) : List (Key × D) :=
  if (kds.any fun kv => decide (kv.1 = k)) = true then kds.map (fun kv => if kv.1 = k then (kv.1, d) else kv) else kds ++ [(k, d)]
section
variable {K : PySem.W.Frag} {F : Hp} {R : List Addr}
theorem rpK_val {k : Key} {d : D} : ∀ {kvs : List (Key × V)} {kds : List (Key × D)}, RpK K F R kvs kds → valD kds k = some d → ∃ v, valV kvs k = some v ∧ Rp K F R v d
  | _, _, .nil, h => by cases h
  | (k1, v1) :: kvs, (_, d1) :: kds, .cons r t, h => by
    by_cases c : k1 = k
    · have h' : some d1 = some d := by
        unfold valD at h
        rw [List.find?_cons_of_pos (by simpa using c)] at h
        exact h
      cases h'
      exact ⟨v1, valV_pos c, r⟩
    · unfold valD at h
      rw [List.find?_cons_of_neg (by simpa using c)] at h
      obtain ⟨v, e, rv⟩ := rpK_val t h
      exact ⟨v, (valV_neg c).trans e, rv⟩
theorem rpK_any (k : Key) : ∀ {kvs : List (Key × V)} {kds : List (Key × D)}, RpK K F R kvs kds → (kvs.any fun kv => decide (kv.1 = k)) = kds.any fun kv => decide (kv.1 = k)
  | _, _, .nil => rfl
  | _, _, .cons r t => by rw [List.any_cons, List.any_cons, rpK_any k t]
theorem rpK_repl {k : Key} {v : V} {d : D} (rv : Rp K F R v d) : ∀ {kvs : List (Key × V)} {kds : List (Key × D)}, RpK K F R kvs kds → RpK K F R (kvs.map fun kv => if kv.1 = k then (kv.1, v) else kv) (kds.map fun kv => if kv.1 = k then (kv.1, d) else kv)
  | _, _, .nil => .nil
  | (k1, v1) :: kvs, (_, d1) :: kds, .cons r t => by
    rw [List.map_cons, List.map_cons]
    by_cases c : k1 = k
    · rw [if_pos c, if_pos c]
      exact .cons rv (rpK_repl rv t)
    · rw [if_neg c, if_neg c]
      exact .cons r (rpK_repl rv t)
theorem rpK_snoc {k : Key} {v : V} {d : D} (rv : Rp K F R v d) : ∀ {kvs : List (Key × V)} {kds : List (Key × D)}, RpK K F R kvs kds → RpK K F R (kvs ++ [(k, v)]) (kds ++ [(k, d)])
  | _, _, .nil => .cons rv .nil
  | _, _, .cons r t => .cons r (rpK_snoc rv t)
theorem rpK_put {k : Key} {v : V} {d : D} (rv : Rp K F R v d) {kvs : List (Key × V)} {kds : List (Key × D)} (r : RpK K F R kvs kds) : RpK K F R (putK kvs k v) (putD kds k d) := by
  unfold putK putD
  rw [rpK_any k r]
  by_cases c : (kds.any fun kv => decide (kv.1 = k)) = true
  · rw [if_pos c, if_pos c]
    exact rpK_repl rv r
  · rw [if_neg c, if_neg c]
    exact rpK_snoc rv r
theorem rpK_len : ∀ {kvs : List (Key × V)} {kds : List (Key × D)}, RpK K F R kvs kds → kvs.length = kds.length
  | _, _, .nil => rfl
  | _, _, .cons r t => by rw [List.length_cons, List.length_cons, rpK_len t]
end
theorem valD_put (k j : Key) (d : D) : ∀ kds : List (Key × D), valD (putD kds k d) j = if j = k then some d else valD kds j := by
  have nil_ : ∀ kds : List (Key × D), (kds.any fun kv => decide (kv.1 = k)) = false → valD kds k = none := fun kds h => by
    unfold valD
    rw [List.find?_eq_none.mpr fun kv hkv => by
      have := List.any_eq_false.mp h kv hkv
      simpa using this]
    rfl
  have rep_ : ∀ kds : List (Key × D), valD (kds.map fun kv => if kv.1 = k then (kv.1, d) else kv) j = if j = k then (valD kds k).map fun _ => d else valD kds j := fun kds => by
    induction kds with
    | nil => by_cases c : j = k <;> simp [valD, c]
    | cons a kds ih =>
      obtain ⟨k1, d1⟩ := a
      unfold valD at ih ⊢
      rw [List.map_cons]
      by_cases c1 : k1 = k
      · rw [if_pos c1]
        by_cases c : j = k
        · rw [if_pos c] at ih ⊢
          rw [List.find?_cons_of_pos (by simp [c1, c]), List.find?_cons_of_pos (by simp [c1])]
          rfl
        · rw [if_neg c] at ih ⊢
          rw [List.find?_cons_of_neg (by simpa [c1] using fun z => c z.symm), List.find?_cons_of_neg (by simpa [c1] using fun z => c z.symm)]
          exact ih
      · rw [if_neg c1]
        by_cases c2 : k1 = j
        · have c : ¬ j = k := fun z => c1 (c2.trans z)
          rw [if_neg c] at ih ⊢
          rw [List.find?_cons_of_pos (by simpa using c2), List.find?_cons_of_pos (by simpa using c2)]
        · rw [List.find?_cons_of_neg (by simpa using c2), ih]
          by_cases c : j = k
          · rw [if_pos c, if_pos c, List.find?_cons_of_neg (by simpa using c1)]
          · rw [if_neg c, if_neg c, List.find?_cons_of_neg (by simpa using c2)]
  intro kds
  unfold putD
  cases h : kds.any fun kv => decide (kv.1 = k) with
  | true =>
    rw [if_pos rfl, rep_]
    by_cases c : j = k
    · rw [if_pos c, if_pos c]
      obtain ⟨kv, h1, h2⟩ := List.any_eq_true.mp h
      cases hv : valD kds k with
      | some z => rfl
      | none =>
        unfold valD at hv
        rw [Option.map_eq_none_iff, List.find?_eq_none] at hv
        exact absurd h2 (hv kv h1)
    · rw [if_neg c, if_neg c]
  | false =>
    rw [if_neg (by decide)]
    unfold valD
    rw [List.find?_append]
    by_cases c : j = k
    · rw [if_pos c, c]
      have := nil_ kds h
      unfold valD at this
      rw [Option.map_eq_none_iff] at this
      rw [this, List.find?_cons_of_pos (by simp)]
      rfl
    · rw [if_neg c, List.find?_cons_of_neg (by simpa using fun z => c z.symm)]
      cases kds.find? fun kv => decide (kv.1 = j) <;> rfl
theorem putD_len (kds : List (Key × D)) (k : Key) (d : D) : (putD kds k d).length ≤ kds.length + 1 := by
  unfold putD
  split
  · rw [List.length_map]; omega
  · rw [List.length_append]; exact Nat.le_refl _
section
variable {M : Ghost} {C : Ct M} {e e2 ke ve : Expr} {we wi wk wv : EW M} {pos p1 : Pos}
@[simp] def wD1 (wk wv : EW M) : VW M := fun ρ g q => wk ρ g fun d g1 => asI d fun j => wv ρ g1 fun x g2 => q (.odt [(.inl j, x)]) g2
theorem dv_dict1 (hk : DE C ke wk) (hv : DE C ve wv) : DV C (.Dict [some ke] [ve] pos) (wD1 wk wv) := ⟨fun σ ρ W Q q S hQ hw =>
  tOf_of (pe_disp (pps_cons pe_tOf pe_tOf pps_nil) (by rfl) (by rfl) (fun z => by cases z) (by simp)) (fun p hp => by
    have g1 := Go.new (o := .dK []) S.ok hp
    have k1 := Wok.new (o := .dK []) S.ok hp
    refine hk.run σ ρ (W.new p (.dK [])) _ _ (S.step g1 k1) (fun x d W2 g2 k2 r2 q2 => ?_) hw
    cases d with
    | int j =>
      cases r2
      refine hv.run σ ρ W2 _ _ (S.step (g1.trans g2) k2) (fun y d W3 g3 k3 r3 q3 => ?_) q2
      have a1 : SlOk C (W.new p (.dK [])) (.odt []) (some (.ref p)) := slOk_fresh S g1 ⟨p, [], rfl, upd_same, S.ok.noF hp, S.ok.noR hp, hp, .nil⟩
      obtain ⟨p', kvs, b1, b2, b3, b4, b5, b6⟩ := (a1.step g2).step g3
      cases b1
      cases b6
      refine ⟨b2, [(.inl j, y)], rfl, by simp, ?_⟩
      exact hQ (.ref p) (.odt [(.inl j, d)]) (W3.put p (.dK [(.inl j, y)])) (((g1.trans g2).trans g3).put hp) (k3.put b3 b4) ⟨p, _, rfl, upd_same, b3, b4, hp, .cons r3 .nil⟩ q3
    | _ => exact False.elim q2)⟩
@[simp] def wDGet (i : Nat) (wi : EW M) : EW M := fun ρ g q => ∃ kds, ρ[i]? = some (.odt kds) ∧ wi ρ g fun x g1 => asI x fun j => ∃ d, valD kds (.inl j) = some d ∧ q d g1
theorem de_dget {i : Nat} {x : Str} (hu : C.X.A.units + 64 < cLine) (hv : PE C.X (.Name x p1) (tVar i)) (hi : DE C e2 wi) (hs : NoSl e2) : DE C (.Subscript (.Name x p1) e2 pos) (wDGet i wi) := ⟨fun σ ρ W Q q S hQ hw => by
  obtain ⟨kds, e0, h⟩ := hw
  obtain ⟨o, h1, h2⟩ := S.sl i _ e0
  obtain ⟨p, kvs, rfl, h3, h4, h5, h6, r⟩ := h2
  refine tOf_of (pe_dget (by omega) hv pe_tOf hs) ⟨.ref p, h1, ?_⟩
  refine hi.run σ ρ W _ _ S (fun y x W2 g2 k2 r2 q2 => ?_) h
  cases x with
  | int j =>
    cases r2
    obtain ⟨d, hd, q2⟩ := q2
    have r' := r.step g2
    obtain ⟨v, hv, rv⟩ := rpK_val r' hd
    have h3' := g2.keep _ _ h3 h5
    exact ⟨p, v, rfl, by have := DGet.k (k := .inl j) h3'; rw [hv] at this; exact this, hQ _ _ W2 g2 k2 rv q2⟩
  | _ => exact False.elim q2⟩
@[simp] def wDSet (i : Nat) (we wi : EW M) : SW M := fun k ρ g => ∃ kds, ρ[i]? = some (.odt kds) ∧ we ρ g fun d g1 => wi ρ g1 fun x g2 => asI x fun j => kds.length < sizeLine ∧ k.nx (ρ.set i (.odt (putD kds (.inl j) d))) g2
/-- x[e2] = e, x a dict of one's own -/
theorem ds_dset {i : Nat} {x : Str} {spos : Pos} (hu : C.X.A.units + 64 < cLine) (hv : PE C.X (.Name x p1) (tVar i)) (he : DE C e we) (hi : DE C e2 wi)
    (ha : ∀ v, assign (.Subscript (.Name x p1) e2 spos) C.X.env v = (do
      let ov ← holding [v] (eval (.Name x p1) C.X.env)
      let iv ← holding [v, ov] (eval e2 C.X.env)
      standAt spos
      holding [v, ov, iv] (setItem ov iv v)
      release [v, ov, iv] []) := by intro _; rfl)
    (hs : swapsWithSole [.Subscript (.Name x p1) e2 spos] e pos.line C.X.env = pure false := by rfl) (hw : swappedStores [.Subscript (.Name x p1) e2 spos] e C.X.env = pure none := by rfl)
    (h1 : (assignEach [.Subscript (.Name x p1) e2 spos] C.X.env).map (·.2) = [assign (.Subscript (.Name x p1) e2 spos) C.X.env] := by rfl) :
    DS C (.Assign [.Subscript (.Name x p1) e2 spos] e pos) (wDSet i we wi) := ⟨fun σ ρ W k E S l h => by
  obtain ⟨kds, e0, h⟩ := h
  obtain ⟨o, h1', p, kvs, h2, h3, h4, h5, h6, r⟩ := S.sl i _ e0
  subst h2
  refine tsOf_of (ps_asg pe_tOf (pg_sub hv pe_tOf (set_dict (by omega)) ha) hs hw h1) ?_
  refine he.run σ ρ W _ _ S (fun v d W1 g1 k1 r1 q1 => ⟨.ref p, h1', ?_⟩) h
  refine hi.run σ ρ W1 _ _ (S.step g1 k1) (fun u x W2 g2 k2 r2 q2 => ?_) q1
  cases x with
  | int j =>
    cases r2
    have S2 := S.step (g1.trans g2) k2
    obtain ⟨o2, a1, p2, kvs2, a2, a3, a4, a5, a6, r3⟩ := S2.sl i _ e0
    subst a2
    rw [h1'] at a1
    cases a1
    obtain ⟨S3, g3⟩ := S2.writeG (u := .dK (putK kvs2 (.inl j) v)) (s1 := .odt (putD kds (.inl j) d)) e0 rfl rfl h1' fun h4 h5 h6 => ⟨p, _, rfl, upd_same, h4, h5, h6, rpK_put (r1.step g2) r3⟩
    exact ⟨p, _, rfl, DPut.k (k := .inl j) a3 (by rw [rpK_len r3]; exact q2.1), l.nx _ _ _ ((g1.trans g2).s.trans g3) S3 q2.2⟩
  | _ => exact False.elim q2⟩
end
section
variable {M : Ghost} {C : Ct M} {W W1 W2 W3 : Wd M} {σ : L2.St} {ρ : DEnv} {pos : Pos}
end
section
variable {M : Ghost} {C : Ct M} {e : Expr}
end
end DL
set_option Elab.async false
set_option linter.all false
set_option maxRecDepth 100000
set_option maxHeartbeats 1000000
namespace DL
open PySem L2
section
variable {K : PySem.W.Frag} {F : Hp} {R : List Addr}
end
section
variable {M : Ghost} {C : Ct M} {e : Expr} {we : EW M} {pos p1 p2 apos bpos cpos dpos : Pos}
end
end DL
set_option Elab.async false
set_option linter.all false
set_option maxRecDepth 100000
set_option maxHeartbeats 1000000
namespace DL
open PySem L2
section
variable {M : Ghost} {C : Ct M} {o e : Expr} {wo we : EW M} {apos pos : Pos}
end
end DL
set_option Elab.async false
set_option linter.all false
set_option maxRecDepth 100000
set_option maxHeartbeats 1000000
namespace DL
open PySem L2
section
variable {X : Cx}
end
section
variable {M : Ghost} {C : Ct M}
end
end DL
set_option Elab.async false
set_option linter.all false
set_option maxRecDepth 100000
set_option maxHeartbeats 1000000
namespace DL
open PySem L2
section
variable {M : Ghost} {C : Ct M} {o : Expr} {wo : EW M} {apos pos : Pos}
end
end DL
set_option Elab.async false
set_option linter.all false
set_option maxRecDepth 100000
set_option maxHeartbeats 1000000
namespace DL
open PySem L2 PySem.W
section
variable {prog : Program} {w : World} {A : Around} {E : Value → Shared → Prop} {s : Shared}
end
section
variable {X : Cx}
end
section
variable {M : Ghost} {C : Ct M}
def cTupleX : List D → (D → Prop) → Prop
  | [.lst ds], q => q (.tup ds)
  | [.tup ds], q => q (.tup ds)
  | [.str x], q => x.length ≤ sizeLine ∧ q (.tup (x.map fun c => .str [c]))
  | _, _ => False
@[simp] theorem sm_tupleX1 {ds : List D} {q : D → Prop} : (cTupleX [.lst ds] q) = (q (.tup ds)) := rfl
@[simp] theorem sm_tupleX2 {ds : List D} {q : D → Prop} : (cTupleX [.tup ds] q) = (q (.tup ds)) := rfl
@[simp] theorem sm_tupleX3 {x : List Nat} {q : D → Prop} : (cTupleX [.str x] q) = (x.length ≤ sizeLine ∧ q (.tup (x.map fun c => .str [c]))) := rfl
end
end DL
set_option Elab.async false
set_option linter.all false
set_option maxRecDepth 100000
set_option maxHeartbeats 1000000
namespace DL
open PySem PySem.Spec PyProof.Rows L2
section
variable {M : Ghost} {C : Ct M} {e : Expr} {we : EW M} {pos : Pos} {k1 : Nat} {p1 p2 p3 : Pos}
end
/-- whether a text stands somewhere in another -/
def subB (x z : List Nat) : Bool := (List.range (z.length + 1)).any fun p => decide ((z.drop p).take x.length = x)
section
variable {M : Ghost} {C : Ct M} {W W1 W2 W' : Wd M} {σ : L2.St} {ρ : DEnv} {e : Expr} {es : List Expr} {we : EW M} {pos : Pos}
def oInT (d e : D) (q : D → Prop) : Prop := ∃ x z : List Nat, d = .str x ∧ e = .str z ∧ q (.bl (subB x z))
def oNotInT (d e : D) (q : D → Prop) : Prop := ∃ x z : List Nat, d = .str x ∧ e = .str z ∧ q (.bl (!subB x z))
@[simp] theorem sm_inT {x z : List Nat} {q : D → Prop} : (oInT (.str x) (.str z) q) = (q (.bl (subB x z))) := by
  refine propext ⟨?_, fun h => ⟨x, z, rfl, rfl, h⟩⟩
  rintro ⟨a, b, e1, e2, h⟩
  cases e1; cases e2; exact h
@[simp] theorem sm_notInT {x z : List Nat} {q : D → Prop} : (oNotInT (.str x) (.str z) q) = (q (.bl (!subB x z))) := by
  refine propext ⟨?_, fun h => ⟨x, z, rfl, rfl, h⟩⟩
  rintro ⟨a, b, e1, e2, h⟩
  cases e1; cases e2; exact h
end
end DL
set_option Elab.async false
set_option linter.all false
set_option maxRecDepth 100000
set_option maxHeartbeats 1000000
namespace DL
open PySem L2
end DL
set_option Elab.async false
set_option linter.all false
set_option maxRecDepth 100000
set_option maxHeartbeats 1000000
namespace DL
open PySem L2
abbrev d_l_draw : DSp stg := dDraw
def nats (xs : List Nat) : List D := xs.map fun (i : Nat) => D.int (i : Int)
def isPerm (o : List Nat) : Prop := o.Perm (List.range o.length)
/-- the place of each number in a row of different ones -/
def inv (o : List Nat) : List Nat := (List.range o.length).map fun p => o.idxOf p
/-- the rank of a place of an order, -1 for the place behind the last one -/
def rkE (o : List Nat) (p : Nat) : Int := (((inv o).map fun (i : Nat) => (i : Int)) ++ [-1]).getD p 0
/-- the indexes of the strict steps -/
def stpW (o : List Nat) : List Nat := ((List.range (o.length - 1)).filter fun i => decide (rkE o (o.getD (i + 1) 0 + 1) < rkE o (o.getD i 0 + 1))).map (· + 1)
/-- a row of the numbers of orders out of the row above -/
def eulS (c : List Int) (n : Int) : List Int := (List.range c.length).map fun (i : Nat) => ((i : Int) + 1) * c.getD i 0 + (n - i) * ((0 :: c).getD i 0)
def eulR (c : List Int) : Nat → List Int
  | 0 => c
  | k + 1 => eulS (eulR c k) (k + 2)
/-- the number of orders of n places with s strict steps -/
def eulW (n s : Nat) : Int := (eulR (1 :: List.replicate (n + s) 0) (n - 1)).getD s 0
def d_count_orders : DSp stg := fun ds g q _ => ∃ n s : Nat, ds = [.int n, .int s] ∧ n ≤ 1000 ∧ s ≤ 1000 ∧ q (.int (eulW n s)) g
end DL
set_option Elab.async false
set_option linter.all false
set_option maxRecDepth 100000
set_option maxHeartbeats 1000000
namespace DL
open PySem L2
/-- a value whose type is known -/
def okD (d : D) : Prop := ∃ t, tyN d = some t
def natD : D → Nat
  | .int i => i.toNat
  | _ => 0
/-- an order, grown by a first place of a rank -/
def grnW (o : List Nat) (s : Nat) : List Nat := (o.take s).map (· + 1) ++ 0 :: (o.drop s).map (· + 1)
/-- all orders of so many places -/
def allO : Nat → List (List Nat)
  | 0 => [[]]
  | n + 1 => (allO n).flatMap fun o => (List.range (n + 1)).map fun s => grnW o s
def tups (xs : List (List Nat)) : List D := xs.map fun o => .tup (nats o)
def d_l_all_orders : DSp stg := fun ds g q _ => ∃ n : Nat, ds = [.int n] ∧ n ≤ 6 ∧ q (.lst (tups (allO n))) g
def d_l_steps : DSp stg := fun ds g q _ => ∃ o : List Nat, ds = [.tup (nats o)] ∧ isPerm o ∧ o.length ≤ 1000 ∧ q (.lst (nats (stpW o))) g
/-- a row out of the one above -/
def knwS (c : List Int) (n : Nat) : List Int := (List.range n).map fun (i : Nat) => (if i < n - 1 then ((i : Int) + 1) * c.getD i 0 else 0) + (if 0 < i then ((n : Int) - i) * c.getD (i - 1) 0 else 0)
def knwR : Nat → List Int
  | 0 => [1]
  | n + 1 => knwS (knwR n) (n + 2)
/-- the numbers of orders of n places -/
def knw (n : Nat) : List Int := knwR (n - 1)
def d_l_known : DSp stg := fun ds g q _ => ∃ n : Nat, ds = [.int n] ∧ 1 ≤ n ∧ n ≤ 40 ∧ q (.lst ((knw n ++ List.replicate 60 0).map D.int)) g
def cutV (v : D) : Prop := okD v ∧ ∀ xs, v = .tup xs → xs.length ≤ 100 ∧ ∀ d ∈ xs, okD d ∧ ∀ x, d = .str x → x.length ≤ 100
end DL
set_option Elab.async false
set_option linter.all false
set_option maxRecDepth 100000
set_option maxHeartbeats 1000000
namespace DL
open PySem L2
section
variable {M : Ghost} {gw : GW} {wt : TW M} {we : EW M} {ρ : DEnv} {g : M.G} {q : List D → M.G → Prop}
/-- a comprehension that draws nothing -/
theorem lcW_map {α : Type} (e f : α → D) (p : α → Bool) : ∀ (xs : List α) {q : List D → M.G → Prop}, (∀ x ∈ xs, ∀ (k1 : D → M.G → Prop) (k0 : M.G → Prop), (if p x = true then k1 (f x) g else k0 g) → gw (e x) ρ fun ρ' => wt ρ' g fun b g1 => if b = true then we ρ' g1 k1 else k0 g1) →
    q ((xs.filter p).map f) g → lcW gw wt we ρ (xs.map e) g q
  | [], _, _, h => h
  | x :: xs, q, hs, h => by
    have ih := fun {q} => lcW_map e f p xs (q := q) (fun y hy => hs y (List.mem_cons_of_mem _ hy))
    refine hs x List.mem_cons_self _ _ ?_
    by_cases hp : p x = true
    · rw [if_pos hp]
      rw [List.filter_cons_of_pos hp] at h
      exact ih h
    · rw [if_neg hp]
      rw [List.filter_cons_of_neg hp] at h
      exact ih h
theorem lcW_all {α : Type} (e f : α → D) (xs : List α) {q : List D → M.G → Prop} (hs : ∀ x ∈ xs, ∀ (k1 : D → M.G → Prop) (k0 : M.G → Prop), k1 (f x) g → gw (e x) ρ fun ρ' => wt ρ' g fun b g1 => if b = true then we ρ' g1 k1 else k0 g1)
    (h : q (xs.map f) g) : lcW gw wt we ρ (xs.map e) g q :=
  lcW_map e f (fun _ => true) xs (fun x hx k1 k0 z => hs x hx k1 k0 (by simpa using z)) (by rw [List.filter_eq_self.mpr (fun _ _ => rfl)]; exact h)
end
section
variable {M : Ghost} {gw : GW} {wb : SW M} {k : K3 M}
/-- a for by its word -/
theorem forW_inv (I : Nat → DEnv → M.G → Prop) : ∀ (ds : List D) (n : Nat) {ρ : DEnv} {g : M.G}, (∀ (i : Nat) d ρ g (K : DEnv → M.G → Prop), ds[i]? = some d → I (n + i) ρ g → (∀ ρ g, I (n + i + 1) ρ g → K ρ g) → gw d ρ fun ρ' => wb { nx := K, rt := k.rt, bk := k.nx, ct := K } ρ' g) →
    (∀ ρ g, I (n + ds.length) ρ g → k.nx ρ g) → I n ρ g → forW gw wb ds k ρ g
  | [], n, ρ, g, _, he, h => he ρ g h
  | d :: ds, n, ρ, g, hs, he, h => by
    refine hs 0 d ρ g _ rfl h fun ρ g h' => ?_
    refine forW_inv I ds (n + 1) (fun i d ρ g K e h K1 => hs (i + 1) d ρ g K (by simpa using e) (by rw [show n + (i + 1) = n + 1 + i by omega]; exact h) (by rw [show n + (i + 1) + 1 = n + 1 + i + 1 by omega]; exact K1)) (fun ρ g h => he ρ g (by rw [List.length_cons, show n + (ds.length + 1) = n + 1 + ds.length by omega]; exact h)) h'
theorem forW_word (I : Nat → DEnv → M.G → Prop) (ds : List D) {ρ : DEnv} {g : M.G} (h0 : I 0 ρ g) (hs : ∀ (i : Nat) d ρ g (K : DEnv → M.G → Prop), ds[i]? = some d → I i ρ g → (∀ ρ g, I (i + 1) ρ g → K ρ g) → gw d ρ fun ρ' => wb { nx := K, rt := k.rt, bk := k.nx, ct := K } ρ' g)
    (he : ∀ ρ g, I ds.length ρ g → k.nx ρ g) : forW gw wb ds k ρ g :=
  forW_inv I ds 0 (fun i d ρ g K e h K1 => hs i d ρ g K e (by rw [Nat.zero_add] at h; exact h) (by rw [Nat.zero_add] at K1; exact K1)) (fun ρ g h => he ρ g (by rw [Nat.zero_add] at h; exact h)) h0
end
theorem rngL_0 (n : Nat) : rngL 0 (n : Int) = (List.range n).map fun (i : Nat) => D.int (i : Int) := by
  unfold rngL
  simp
theorem small_line {n : Nat} (h : n ≤ 16777216) : n ≤ sizeLine := by rw [sizeLine_eq]; exact h
theorem lt_line {n : Nat} (h : n < 16777216) : n < sizeLine := by rw [sizeLine_eq]; exact h
theorem atI_ofNat {α : Type} {xs : List α} {j : Nat} {v : α} (h : xs[j]? = some v) : atI xs (j : Int) = some v := atI_nat h
theorem ixN_ofNat {n j : Nat} (h : j < n) : ixN n (j : Int) = some j := by
  unfold ixN
  rw [if_pos (by omega), if_pos (by omega)]
  simp
theorem cut_from {α : Type} (xs : List α) (i : Nat) : cutL xs (some (i : Int)) none = xs.drop i := by
  unfold cutL
  rw [HT.sIx_nat, HT.sIx_none]
  by_cases h : i ≤ xs.length
  · rw [Nat.min_eq_left h, List.take_of_length_le (by rw [List.length_drop]; omega)]
  · rw [Nat.min_eq_right (by omega), List.drop_length, List.drop_eq_nil_of_le (by omega)]
    simp
theorem cut_to {α : Type} (xs : List α) (i : Nat) : cutL xs none (some (i : Int)) = xs.take i := by
  unfold cutL
  rw [HT.sIx_nat, HT.sIx_none, List.drop_zero, Nat.sub_zero]
  by_cases h : i ≤ xs.length
  · rw [Nat.min_eq_left h]
  · rw [Nat.min_eq_right (by omega), List.take_length, List.take_of_length_le (by omega)]
theorem rngL_nn (a b : Nat) : rngL (a : Int) (b : Int) = (List.range' a (b - a)).map fun (i : Nat) => D.int (i : Int) := by
  unfold rngL
  have e : ((b : Int) - (a : Int)).toNat = b - a := by omega
  rw [e, List.range'_eq_map_range, List.map_map]
  refine List.map_congr_left fun i _ => ?_
  show D.int ((a : Int) + (i : Int)) = D.int ((a + i : Nat) : Int)
  rw [Int.natCast_add]
theorem rngL_1 (n : Nat) : rngL 1 (n : Int) = (List.range' 1 (n - 1)).map fun (i : Nat) => D.int (i : Int) := rngL_nn 1 n
end DL
set_option Elab.async false
set_option linter.all false
set_option maxRecDepth 100000
set_option maxHeartbeats 1000000
namespace DL
open PySem L2
section
variable {q : D → Prop} {qn : List D → Prop} {i j : Int} {x y : List Nat} {ds es : List D} {b c : Bool} {d e : D}
@[simp] theorem sm_add1 : (oAdd (.int i) (.int j) q) = (q (.int (i + j))) := rfl
@[simp] theorem sm_add2 : (oAdd (.str x) (.str y) q) = (x.length + y.length ≤ sizeLine ∧ q (.str (x ++ y))) := rfl
@[simp] theorem sm_add3 : (oAdd (.tup ds) (.tup es) q) = (ds.length + es.length ≤ sizeLine ∧ q (.tup (ds ++ es))) := rfl
@[simp] theorem sm_cat : (oCat (.lst ds) (.lst es) qn) = (ds.length + es.length ≤ sizeLine ∧ qn (ds ++ es)) := rfl
@[simp] theorem sm_sub : (oSub (.int i) (.int j) q) = (q (.int (i - j))) := rfl
@[simp] theorem sm_mul1 : (oMul (.int i) (.int j) q) = (CMul i j ∧ q (.int (i * j))) := rfl
@[simp] theorem sm_mul2 : (oMul (.str x) (.int j) q) = (0 ≤ j ∧ x.length * j.toNat ≤ sizeLine ∧ j ≤ 2 ^ 32 ∧ q (.str (List.replicate j.toNat x).flatten)) := rfl
@[simp] theorem sm_rep : (oRep (.lst ds) (.int j) qn) = (-(2 ^ 63) ≤ j ∧ j < 2 ^ 63 ∧ ds.length * j.toNat ≤ sizeLine ∧ qn (List.replicate j.toNat ds).flatten) := rfl
@[simp] theorem sm_div : (oDiv (.int i) (.int j) q) = (CDiv i j ∧ q (.int (i / j))) := rfl
@[simp] theorem sm_mod : (oMod (.int i) (.int j) q) = (0 < j ∧ q (.int (i % j))) := rfl
@[simp] theorem sm_pow : (oPow (.int i) (.int j) q) = (CPow i j ∧ q (.int (i ^ j.toNat))) := rfl
@[simp] theorem sm_lt1 : (oLt (.int i) (.int j) q) = (q (.bl (decide (i < j)))) := rfl
@[simp] theorem sm_lt2 : (oLt (.str x) (.str y) q) = (q (.bl (decide (x < y)))) := rfl
@[simp] theorem sm_le1 : (oLe (.int i) (.int j) q) = (q (.bl (decide (i ≤ j)))) := rfl
@[simp] theorem sm_le2 : (oLe (.str x) (.str y) q) = (q (.bl (!decide (y < x)))) := rfl
@[simp] theorem sm_gt1 : (oGt (.int i) (.int j) q) = (q (.bl (decide (j < i)))) := rfl
@[simp] theorem sm_gt2 : (oGt (.str x) (.str y) q) = (q (.bl (decide (y < x)))) := rfl
@[simp] theorem sm_ge1 : (oGe (.int i) (.int j) q) = (q (.bl (decide (j ≤ i)))) := rfl
@[simp] theorem sm_ge2 : (oGe (.str x) (.str y) q) = (q (.bl (!decide (x < y)))) := rfl
@[simp] theorem sm_eq1 : (oEq (.int i) (.int j) q) = (q (.bl (decide (i = j)))) := rfl
@[simp] theorem sm_eq2 : (oEq (.str x) (.str y) q) = (q (.bl (decide (x = y)))) := rfl
@[simp] theorem sm_eq3 : (oEq (.bl b) (.bl c) q) = (q (.bl (decide (b = c)))) := rfl
@[simp] theorem sm_eql : (oEq (.lst ds) e q) = (shp (.lst ds) = true ∧ shp e = true ∧ q (.bl (deq (.lst ds) e))) := rfl
@[simp] theorem sm_eqt : (oEq (.tup ds) e q) = (shp (.tup ds) = true ∧ shp e = true ∧ q (.bl (deq (.tup ds) e))) := rfl
@[simp] theorem sm_eqn : (oEq (.non) e q) = (shp (.non) = true ∧ shp e = true ∧ q (.bl (deq (.non) e))) := rfl
@[simp] theorem sm_eqli : (oEq (.int i) (.lst es) q) = (shp (.int i) = true ∧ shp (.lst es) = true ∧ q (.bl (deq (.int i) (.lst es)))) := rfl
@[simp] theorem sm_eqls : (oEq (.str x) (.lst es) q) = (shp (.str x) = true ∧ shp (.lst es) = true ∧ q (.bl (deq (.str x) (.lst es)))) := rfl
@[simp] theorem sm_eqlb : (oEq (.bl b) (.lst es) q) = (shp (.bl b) = true ∧ shp (.lst es) = true ∧ q (.bl (deq (.bl b) (.lst es)))) := rfl
@[simp] theorem sm_eqti : (oEq (.int i) (.tup es) q) = (shp (.int i) = true ∧ shp (.tup es) = true ∧ q (.bl (deq (.int i) (.tup es)))) := rfl
@[simp] theorem sm_eqts : (oEq (.str x) (.tup es) q) = (shp (.str x) = true ∧ shp (.tup es) = true ∧ q (.bl (deq (.str x) (.tup es)))) := rfl
@[simp] theorem sm_eqtb : (oEq (.bl b) (.tup es) q) = (shp (.bl b) = true ∧ shp (.tup es) = true ∧ q (.bl (deq (.bl b) (.tup es)))) := rfl
@[simp] theorem sm_eqni : (oEq (.int i) (.non) q) = (shp (.int i) = true ∧ shp (.non) = true ∧ q (.bl (deq (.int i) (.non)))) := rfl
@[simp] theorem sm_eqns : (oEq (.str x) (.non) q) = (shp (.str x) = true ∧ shp (.non) = true ∧ q (.bl (deq (.str x) (.non)))) := rfl
@[simp] theorem sm_eqnb : (oEq (.bl b) (.non) q) = (shp (.bl b) = true ∧ shp (.non) = true ∧ q (.bl (deq (.bl b) (.non)))) := rfl
@[simp] theorem sm_eqis : (oEq (.int i) (.str x) q) = (shp (.int i) = true ∧ shp (.str x) = true ∧ q (.bl (deq (.int i) (.str x)))) := rfl
@[simp] theorem sm_eqsi : (oEq (.str x) (.int i) q) = (shp (.str x) = true ∧ shp (.int i) = true ∧ q (.bl (deq (.str x) (.int i)))) := rfl
@[simp] theorem sm_eqib : (oEq (.int i) (.bl b) q) = (shp (.int i) = true ∧ shp (.bl b) = true ∧ q (.bl (deq (.int i) (.bl b)))) := rfl
@[simp] theorem sm_eqbi : (oEq (.bl b) (.int i) q) = (shp (.bl b) = true ∧ shp (.int i) = true ∧ q (.bl (deq (.bl b) (.int i)))) := rfl
@[simp] theorem sm_eqsb : (oEq (.str x) (.bl b) q) = (shp (.str x) = true ∧ shp (.bl b) = true ∧ q (.bl (deq (.str x) (.bl b)))) := rfl
@[simp] theorem sm_eqbs : (oEq (.bl b) (.str x) q) = (shp (.bl b) = true ∧ shp (.str x) = true ∧ q (.bl (deq (.bl b) (.str x)))) := rfl
@[simp] theorem sm_ne1 : (oNe (.int i) (.int j) q) = (q (.bl (!decide (i = j)))) := rfl
@[simp] theorem sm_ne2 : (oNe (.str x) (.str y) q) = (q (.bl (!decide (x = y)))) := rfl
@[simp] theorem sm_ne3 : (oNe (.bl b) (.bl c) q) = (q (.bl (!decide (b = c)))) := rfl
@[simp] theorem sm_nel : (oNe (.lst ds) e q) = (shp (.lst ds) = true ∧ shp e = true ∧ q (.bl (!deq (.lst ds) e))) := rfl
@[simp] theorem sm_net : (oNe (.tup ds) e q) = (shp (.tup ds) = true ∧ shp e = true ∧ q (.bl (!deq (.tup ds) e))) := rfl
@[simp] theorem sm_nen : (oNe (.non) e q) = (shp (.non) = true ∧ shp e = true ∧ q (.bl (!deq (.non) e))) := rfl
@[simp] theorem sm_neli : (oNe (.int i) (.lst es) q) = (shp (.int i) = true ∧ shp (.lst es) = true ∧ q (.bl (!deq (.int i) (.lst es)))) := rfl
@[simp] theorem sm_nels : (oNe (.str x) (.lst es) q) = (shp (.str x) = true ∧ shp (.lst es) = true ∧ q (.bl (!deq (.str x) (.lst es)))) := rfl
@[simp] theorem sm_nelb : (oNe (.bl b) (.lst es) q) = (shp (.bl b) = true ∧ shp (.lst es) = true ∧ q (.bl (!deq (.bl b) (.lst es)))) := rfl
@[simp] theorem sm_neti : (oNe (.int i) (.tup es) q) = (shp (.int i) = true ∧ shp (.tup es) = true ∧ q (.bl (!deq (.int i) (.tup es)))) := rfl
@[simp] theorem sm_nets : (oNe (.str x) (.tup es) q) = (shp (.str x) = true ∧ shp (.tup es) = true ∧ q (.bl (!deq (.str x) (.tup es)))) := rfl
@[simp] theorem sm_netb : (oNe (.bl b) (.tup es) q) = (shp (.bl b) = true ∧ shp (.tup es) = true ∧ q (.bl (!deq (.bl b) (.tup es)))) := rfl
@[simp] theorem sm_neni : (oNe (.int i) (.non) q) = (shp (.int i) = true ∧ shp (.non) = true ∧ q (.bl (!deq (.int i) (.non)))) := rfl
@[simp] theorem sm_nens : (oNe (.str x) (.non) q) = (shp (.str x) = true ∧ shp (.non) = true ∧ q (.bl (!deq (.str x) (.non)))) := rfl
@[simp] theorem sm_nenb : (oNe (.bl b) (.non) q) = (shp (.bl b) = true ∧ shp (.non) = true ∧ q (.bl (!deq (.bl b) (.non)))) := rfl
@[simp] theorem sm_neis : (oNe (.int i) (.str x) q) = (shp (.int i) = true ∧ shp (.str x) = true ∧ q (.bl (!deq (.int i) (.str x)))) := rfl
@[simp] theorem sm_nesi : (oNe (.str x) (.int i) q) = (shp (.str x) = true ∧ shp (.int i) = true ∧ q (.bl (!deq (.str x) (.int i)))) := rfl
@[simp] theorem sm_neib : (oNe (.int i) (.bl b) q) = (shp (.int i) = true ∧ shp (.bl b) = true ∧ q (.bl (!deq (.int i) (.bl b)))) := rfl
@[simp] theorem sm_nebi : (oNe (.bl b) (.int i) q) = (shp (.bl b) = true ∧ shp (.int i) = true ∧ q (.bl (!deq (.bl b) (.int i)))) := rfl
@[simp] theorem sm_nesb : (oNe (.str x) (.bl b) q) = (shp (.str x) = true ∧ shp (.bl b) = true ∧ q (.bl (!deq (.str x) (.bl b)))) := rfl
@[simp] theorem sm_nebs : (oNe (.bl b) (.str x) q) = (shp (.bl b) = true ∧ shp (.str x) = true ∧ q (.bl (!deq (.bl b) (.str x)))) := rfl
@[simp] theorem sm_isn : (oIsN d .non q) = (q (.bl (isN d))) := rfl
@[simp] theorem sm_notn : (oNotN d .non q) = (q (.bl (!isN d))) := rfl
@[simp] theorem sm_isN_non : (isN (.non)) = (true) := rfl
@[simp] theorem sm_isN_int : (isN (.int i)) = (false) := rfl
@[simp] theorem sm_isN_str : (isN (.str x)) = (false) := rfl
@[simp] theorem sm_isN_bl : (isN (.bl b)) = (false) := rfl
@[simp] theorem sm_isN_lst : (isN (.lst ds)) = (false) := rfl
@[simp] theorem sm_isN_tup : (isN (.tup ds)) = (false) := rfl
@[simp] theorem sm_ix1 : (oIx (.lst ds) (.int i) q) = (∃ d, atI ds i = some d ∧ q d) := rfl
@[simp] theorem sm_ix2 : (oIx (.tup ds) (.int i) q) = (∃ d, atI ds i = some d ∧ q d) := rfl
@[simp] theorem sm_ix3 : (oIx (.str x) (.int i) q) = (x.length ≤ sizeLine ∧ ∃ c, atI x i = some c ∧ q (.str [c])) := rfl
variable {lo hi : Option Int}
@[simp] theorem sm_sl1 : (oSl (.str x) lo hi q) = (x.length ≤ sizeLine ∧ q (.str (cutL x lo hi))) := rfl
@[simp] theorem sm_sl2 : (oSl (.tup ds) lo hi q) = (q (.tup (cutL ds lo hi))) := rfl
@[simp] theorem sm_sl3 : (oSl (.lst ds) lo hi q) = (q (.lst (cutL ds lo hi))) := rfl
@[simp] theorem sm_sl4 : (oSlN (.lst ds) lo hi qn) = (qn (cutL ds lo hi)) := rfl
@[simp] theorem sm_len1 : (cLen [.str x] q) = (x.length ≤ sizeLine ∧ q (.int x.length)) := rfl
@[simp] theorem sm_len2 : (cLen [.lst ds] q) = (q (.int ds.length)) := rfl
@[simp] theorem sm_len3 : (cLen [.tup ds] q) = (q (.int ds.length)) := rfl
@[simp] theorem sm_tup1 : (cTuple [.lst ds] q) = (q (.tup ds)) := rfl
@[simp] theorem sm_tup2 : (cTuple [.tup ds] q) = (q (.tup ds)) := rfl
@[simp] theorem sm_list1 : (cList [.lst ds] qn) = (qn ds) := rfl
@[simp] theorem sm_list2 : (cList [.tup ds] qn) = (qn ds) := rfl
@[simp] theorem sm_min2 : (cMin2 [.int i, .int j] q) = (q (.int (if j < i then j else i))) := rfl
@[simp] theorem sm_max2 : (cMax2 [.int i, .int j] q) = (q (.int (if j > i then j else i))) := rfl
@[simp] theorem sm_int1 : (cInt [.int i] q) = (q (.int i)) := rfl
@[simp] theorem sm_int2 : (cInt [.bl b] q) = (q (.int (if b then 1 else 0))) := rfl
@[simp] theorem sm_str1 : (cStr [.int i] q) = (i.natAbs.log2 < 1920 ∧ q (.str (dec i))) := rfl
@[simp] theorem sm_rev1 : (oRev (.lst ds) q) = (q (.lst ds.reverse)) := rfl
@[simp] theorem sm_rev2 : (oRev (.tup ds) q) = (q (.tup ds.reverse)) := rfl
@[simp] theorem sm_rev3 : (oRevN (.lst ds) qn) = (qn ds.reverse) := rfl
theorem in_seqL {f : Bool → Bool} : (oInB f d (.lst ds) q) = (flatD d = true ∧ ds.all flatD = true ∧ q (.bl (f (ds.any fun y => eqF y d)))) := by
  cases d with
  | str x => cases x with
    | nil => rfl
    | cons a t => cases t <;> rfl
  | _ => rfl
theorem in_seqT {f : Bool → Bool} : (oInB f d (.tup ds) q) = (flatD d = true ∧ ds.all flatD = true ∧ q (.bl (f (ds.any fun y => eqF y d)))) := by
  cases d with
  | str x => cases x with
    | nil => rfl
    | cons a t => cases t <;> rfl
  | _ => rfl
@[simp] theorem sm_in1 : (oIn d (.lst ds) q) = (flatD d = true ∧ ds.all flatD = true ∧ q (.bl (ds.any fun y => eqF y d))) := in_seqL
@[simp] theorem sm_in2 : (oIn d (.tup ds) q) = (flatD d = true ∧ ds.all flatD = true ∧ q (.bl (ds.any fun y => eqF y d))) := in_seqT
@[simp] theorem sm_in3 {c : Nat} : (oIn (.str [c]) (.str x) q) = (q (.bl (decide (c ∈ x)))) := rfl
@[simp] theorem sm_nin1 : (oNotIn d (.lst ds) q) = (flatD d = true ∧ ds.all flatD = true ∧ q (.bl (!ds.any fun y => eqF y d))) := in_seqL
@[simp] theorem sm_nin2 : (oNotIn d (.tup ds) q) = (flatD d = true ∧ ds.all flatD = true ∧ q (.bl (!ds.any fun y => eqF y d))) := in_seqT
@[simp] theorem sm_nin3 {c : Nat} : (oNotIn (.str [c]) (.str x) q) = (q (.bl (!decide (c ∈ x)))) := rfl
@[simp] theorem sm_flat1 : flatD (.int i) = true := rfl
@[simp] theorem sm_flat2 : flatD (.str x) = true := rfl
@[simp] theorem sm_flat3 : flatD (.bl b) = true := rfl
@[simp] theorem sm_isi1 {T : String} : (isiD T (.int i) q) = (q (.bl (isTyp "int" T))) := by
  unfold isiD
  exact propext ⟨fun ⟨t, h1, h2⟩ => by cases h1; exact h2, fun h => ⟨_, rfl, h⟩⟩
@[simp] theorem sm_isi2 {T : String} : (isiD T (.str x) q) = (q (.bl (isTyp "str" T))) := by
  unfold isiD
  exact propext ⟨fun ⟨t, h1, h2⟩ => by cases h1; exact h2, fun h => ⟨_, rfl, h⟩⟩
@[simp] theorem sm_isi3 {T : String} : (isiD T (.bl b) q) = (q (.bl (isTyp "bool" T))) := by
  unfold isiD
  exact propext ⟨fun ⟨t, h1, h2⟩ => by cases h1; exact h2, fun h => ⟨_, rfl, h⟩⟩
@[simp] theorem sm_isi4 {T : String} : (isiD T .non q) = (q (.bl (isTyp "NoneType" T))) := by
  unfold isiD
  exact propext ⟨fun ⟨t, h1, h2⟩ => by cases h1; exact h2, fun h => ⟨_, rfl, h⟩⟩
@[simp] theorem sm_isi5 {T : String} : (isiD T (.lst ds) q) = (q (.bl (isTyp "list" T))) := by
  unfold isiD
  exact propext ⟨fun ⟨t, h1, h2⟩ => by cases h1; exact h2, fun h => ⟨_, rfl, h⟩⟩
@[simp] theorem sm_isi6 {T : String} : (isiD T (.tup ds) q) = (q (.bl (isTyp "tuple" T))) := by
  unfold isiD
  exact propext ⟨fun ⟨t, h1, h2⟩ => by cases h1; exact h2, fun h => ⟨_, rfl, h⟩⟩
variable {qb : Bool → Prop} {qi : Int → Prop} {qs : List Nat → Prop}
@[simp] theorem sm_isB : (isB (.bl b) qb) = (qb b) := rfl
@[simp] theorem sm_asI : (asI (.int i) qi) = (qi i) := rfl
@[simp] theorem sm_asS : (asS (.str x) qs) = (qs x) := rfl
@[simp] theorem sm_it1 : (itemsOf (.lst ds)) = (some ds) := rfl
@[simp] theorem sm_it2 : (itemsOf (.tup ds)) = (some ds) := rfl
@[simp] theorem sm_it3 : (itemsOf (.str x)) = (some (x.map fun c => D.str [c])) := rfl
end
theorem draw_n {n g : Nat} {Q : D → Nat → Prop} {ex : Exn → Nat → Prop} (h0 : 0 < n) (h1 : n < 1152921504606846976) (hg : g + 1 ≤ 2 ^ 60) (h : ∀ v : Nat, v < n → Q (.int v) (g + 1)) : dDraw [.ob 0, .int n] g Q ex :=
  ⟨n, rfl, by omega, by omega, hg, fun v hv hv2 => by
    obtain ⟨m, rfl⟩ := Int.eq_ofNat_of_zero_le hv
    exact h m (by omega)⟩
theorem draw_l {k g : Nat} {Q : D → Nat → Prop} {ex : Exn → Nat → Prop} (hg : g + 1 ≤ 2 ^ 60) (h : ∀ v : Nat, v < k → Q (.int v) (g + 1)) (h0 : 0 < k := by decide) (h1 : k < 1152921504606846976 := by decide) {j : Int} (e : j = k := by rfl) : dDraw [.ob 0, .int j] g Q ex := by
  subst e
  exact draw_n h0 h1 hg h
end DL
set_option Elab.async false
set_option linter.all false
set_option maxRecDepth 100000
set_option maxHeartbeats 1000000
namespace DL
open PySem L2
theorem inv_len (o : List Nat) : (inv o).length = o.length := by unfold inv; rw [List.length_map, List.length_range]
theorem isPerm.nodup {o : List Nat} (h : isPerm o) : o.Nodup := List.Perm.nodup_iff h |>.mpr List.nodup_range
theorem isPerm.lt {o : List Nat} (h : isPerm o) {i : Nat} (hi : i ∈ o) : i < o.length := List.mem_range.mp (List.Perm.mem_iff h |>.mp hi)
theorem isPerm.mem {o : List Nat} (h : isPerm o) {i : Nat} (hi : i < o.length) : i ∈ o := List.Perm.mem_iff h |>.mpr (List.mem_range.mpr hi)
theorem inv_get {o : List Nat} {p : Nat} (hp : p < o.length) : (inv o)[p]? = some (o.idxOf p) := by
  unfold inv
  rw [List.getElem?_map, List.getElem?_range hp]
  rfl
theorem idx_of_get {o : List Nat} (h : o.Nodup) {j p : Nat} (e : o[j]? = some p) : o.idxOf p = j := by
  obtain ⟨hj, rfl⟩ := List.getElem?_eq_some_iff.mp e
  exact h.idxOf_getElem j hj
theorem get_idx {o : List Nat} {p : Nat} (h : p ∈ o) : o[o.idxOf p]? = some p := by
  have := List.idxOf_lt_length_of_mem h
  rw [List.getElem?_eq_getElem this, List.getElem_idxOf]
theorem nats_len (o : List Nat) : (nats o).length = o.length := by unfold nats; rw [List.length_map]
end DL
set_option Elab.async false
set_option linter.all false
set_option maxRecDepth 100000
set_option maxHeartbeats 1000000
namespace DL
open PySem L2
/-- shown in at most n signs, nested at most k levels -/
structure RB (n k : Nat) (d : D) : Prop where
  show_ : (py d).showable = true
  pl : pln d = true
  dep : (py d).depth ≤ k
  len : (py d).shown.length ≤ n
theorem RB.mono {n m k l : Nat} {d : D} (h : RB n k d) (a : n ≤ m) (b : k ≤ l) : RB m l d := ⟨h.1, h.2, Nat.le_trans h.3 b, Nat.le_trans h.4 a⟩
theorem RB.ok {n k : Nat} {d : D} (h : RB n k d) (a : n ≤ 16777216) (b : k ≤ 60) : repOk d := ⟨h.1, h.2, Nat.le_trans h.3 b, by rw [sizeLine_eq]; exact Nat.le_trans h.4 a⟩
theorem rb_int {i : Int} {k : Nat} (hk : 0 < k) (h : i.natAbs < 10 ^ k) (hk2 : k ≤ 400) : RB (k + 1) 0 (.int i) := by
  refine ⟨?_, rfl, Nat.le_refl _, ?_⟩
  · refine decide_eq_true ?_
    by_cases h0 : i.natAbs = 0
    · rw [h0]; decide
    · have e : 10 ^ k ≤ 2 ^ (4 * k) := by
        rw [Nat.pow_mul]
        exact Nat.pow_le_pow_left (by decide) k
      have : i.natAbs.log2 < 4 * k := (Nat.log2_lt h0).mpr (Nat.lt_of_lt_of_le h e)
      omega
  · show (Str.ofString (toString i)).length ≤ k + 1
    rw [PySem.ofString_length]
    exact PySem.int_text_length_le10 hk h
theorem textFrom_le : ∀ (ts : List Str) (k : Nat) (acc : Str), (textFrom k acc ts).length ≤ acc.length + piled ts
  | [], k, acc => Nat.le_refl _
  | t :: r, k, acc => by
    have ih := textFrom_le r (k + 1) (acc ++ (if k > 0 then ", " else "" : String) ++ t)
    show (textFrom (k + 1) _ r).length ≤ _
    refine Nat.le_trans ih ?_
    rw [strLen_append, strLen_append, piled_cons]
    have : ((if k > 0 then ", " else "" : String) : Str).length ≤ 2 := by split <;> decide
    omega
theorem list_le (ts : List Str) : (listText ts).length ≤ piled ts + 2 := by
  unfold listText
  rw [strLen_append]
  have := textFrom_le ts 0 "["
  have e : (("[" : String) : Str).length = 1 := rfl
  have e2 : (("]" : String) : Str).length = 1 := rfl
  omega
theorem rbA {n k : Nat} : ∀ {ds : List D}, (∀ d ∈ ds, RB n k d) → PyData.showableAll (pyA ds) = true ∧ plnA ds = true ∧ PyData.depthAll (pyA ds) ≤ k ∧ piled (PyData.shownAll (pyA ds)) ≤ (n + 2) * ds.length
  | [], _ => ⟨rfl, rfl, Nat.zero_le _, Nat.zero_le _⟩
  | d :: ds, h => by
    obtain ⟨h1, h3, h4, h5⟩ := rbA fun x hx => h x (List.mem_cons_of_mem _ hx)
    have q := h d List.mem_cons_self
    refine ⟨?_, ?_, ?_, ?_⟩
    · simp [pyA, PyData.showableAll, q.1, h1]
    · simp [plnA, q.2, h3]
    · simp only [pyA, PyData.depthAll]
      exact Nat.max_le.mpr ⟨q.3, h4⟩
    · simp only [pyA, PyData.shownAll, piled_cons, List.length_cons]
      have := q.4
      rw [Nat.mul_add]
      omega
theorem rb_lst {n k : Nat} {ds : List D} (h : ∀ d ∈ ds, RB n k d) : RB ((n + 2) * ds.length + 2) (k + 1) (.lst ds) := by
  obtain ⟨h1, h3, h4, h5⟩ := rbA h
  refine ⟨by simpa [py, PyData.showable] using h1, by simpa [pln] using h3, ?_, ?_⟩
  · simp only [py, PyData.depth]; omega
  · simp only [py, PyData.shown]
    have := list_le (PyData.shownAll (pyA ds))
    omega
/-- a call of repr -/
theorem rep_call {d : D} {q : D → Prop} {n k : Nat} (h : RB n k d) (a : n ≤ 16777216) (b : k ≤ 60) (hq : q (.str (rep d))) : cRepr [d] q := ⟨d, rfl, h.ok a b, hq⟩
end DL
set_option Elab.async false
set_option linter.all false
set_option maxRecDepth 100000
set_option maxHeartbeats 1000000
namespace DL
open PySem L2
end DL
set_option Elab.async false
set_option linter.all false
set_option maxRecDepth 100000
set_option maxHeartbeats 1000000
namespace DL
open PySem L2
/-- may be compared: nested at most k levels -/
structure Sh (k : Nat) (d : D) : Prop where
  lay : (py d).canLay0 = true
  dep : (py d).depth ≤ k
  pl : pln d = true
theorem Sh.mono {k l : Nat} {d : D} (h : Sh k d) (a : k ≤ l) : Sh l d := ⟨h.1, Nat.le_trans h.2 a, h.3⟩
theorem Sh.ok {k : Nat} {d : D} (h : Sh k d) (a : k ≤ 64) : shp d = true := by
  unfold shp SeqAt.shaped
  rw [h.1, h.3, decide_eq_true (Nat.le_trans h.2 a)]
  rfl
theorem sh_int (i : Int) : Sh 0 (.int i) := ⟨rfl, Nat.le_refl _, rfl⟩
theorem shA {k : Nat} : ∀ {ds : List D}, (∀ d ∈ ds, Sh k d) → PyData.canLayAll0 (pyA ds) = true ∧ PyData.depthAll (pyA ds) ≤ k ∧ plnA ds = true
  | [], _ => ⟨rfl, Nat.zero_le _, rfl⟩
  | d :: ds, h => by
    obtain ⟨h1, h2, h3⟩ := shA fun x hx => h x (List.mem_cons_of_mem _ hx)
    have q := h d List.mem_cons_self
    refine ⟨?_, ?_, ?_⟩
    · simp [pyA, PyData.canLayAll0, q.1, h1]
    · simp only [pyA, PyData.depthAll]
      exact Nat.max_le.mpr ⟨q.2, h2⟩
    · simp [plnA, q.3, h3]
theorem sh_lst {k : Nat} {ds : List D} (h : ∀ d ∈ ds, Sh k d) : Sh (k + 1) (.lst ds) := by
  obtain ⟨h1, h2, h3⟩ := shA h
  refine ⟨by simpa [py, PyData.canLay0] using h1, ?_, by simpa [pln] using h3⟩
  simp only [py, PyData.depth]; omega
mutual
def nb : D → Bool
  | .non => true
  | .int _ => true
  | .str _ => true
  | .lst ds => nbA ds
  | .tup ds => nbA ds
  | _ => false
def nbA : List D → Bool
  | [] => true
  | d :: ds => nb d && nbA ds
end
mutual
theorem deq_iff : ∀ (d e : D), nb d = true → nb e = true → (deq d e = true ↔ d = e)
  | .non, e, _, he => by cases e <;> simp_all [deq, py, PyData.eqv, nb]
  | .int i, e, _, he => by cases e <;> simp_all [deq, py, PyData.eqv, nb]
  | .str x, e, _, he => by
    cases e with
    | str y =>
      simp only [deq, py, PyData.eqv]
      rw [str_beq, S_list, S_list]
      simp
    | _ => simp_all [deq, py, PyData.eqv, nb]
  | .lst xs, e, hd, he => by
    cases e with
    | lst ys =>
      have := deqA_iff xs ys (by simpa [nb] using hd) (by simpa [nb] using he)
      simp only [deq, py, PyData.eqv]
      rw [this]
      simp
    | _ => simp_all [deq, py, PyData.eqv, nb]
  | .tup xs, e, hd, he => by
    cases e with
    | tup ys =>
      have := deqA_iff xs ys (by simpa [nb] using hd) (by simpa [nb] using he)
      simp only [deq, py, PyData.eqv]
      rw [this]
      simp
    | _ => simp_all [deq, py, PyData.eqv, nb]
  | .bl b, _, hd, _ => by simp [nb] at hd
  | .dic b, _, hd, _ => by simp [nb] at hd
  | .ob b, _, hd, _ => by simp [nb] at hd
  | .exn _ _ _, _, hd, _ => by simp [nb] at hd
  | .tx _, _, hd, _ => by simp [nb] at hd
theorem deqA_iff : ∀ (ds es : List D), nbA ds = true → nbA es = true → (PyData.eqvAll (pyA ds) (pyA es) = true ↔ ds = es)
  | [], [], _, _ => by simp [pyA, PyData.eqvAll]
  | [], _ :: _, _, _ => by simp [pyA, PyData.eqvAll]
  | _ :: _, [], _, _ => by simp [pyA, PyData.eqvAll]
  | d :: ds, e :: es, hd, he => by
    have h1 : nb d = true ∧ nbA ds = true := by simpa [nbA] using hd
    have h2 : nb e = true ∧ nbA es = true := by simpa [nbA] using he
    have a := deq_iff d e h1.1 h2.1
    have b := deqA_iff ds es h1.2 h2.2
    simp only [pyA, PyData.eqvAll, Bool.and_eq_true, List.cons.injEq]
    exact and_congr a b
end
theorem nbA_all {ds : List D} : nbA ds = true ↔ ∀ d ∈ ds, nb d = true := by
  induction ds with
  | nil => simp [nbA]
  | cons d ds ih => simp [nbA, ih]
theorem nb_ints (xs : List Int) : nbA (xs.map D.int) = true := nbA_all.mpr fun d hd => by
  obtain ⟨i, hi, rfl⟩ := List.mem_map.mp hd
  rfl
theorem deq_dec {d e : D} (hd : nb d = true) (he : nb e = true) {P : Prop} [Decidable P] (h : d = e ↔ P) : deq d e = decide P := by
  rw [Bool.eq_iff_iff, deq_iff d e hd he, decide_eq_true_eq]
  exact h
theorem map_inj {α β : Type} {f : α → β} (hf : ∀ a b, f a = f b → a = b) : ∀ {xs ys : List α}, xs.map f = ys.map f → xs = ys
  | [], [], _ => rfl
  | [], _ :: _, h => by cases h
  | _ :: _, [], h => by cases h
  | x :: xs, y :: ys, h => by
    injection h with h1 h2
    rw [hf _ _ h1, map_inj hf h2]
end DL
set_option Elab.async false
set_option linter.all false
set_option maxRecDepth 100000
set_option maxHeartbeats 1000000
namespace DL
open PySem L2
@[simp] theorem natD_int {i : Nat} : natD (.int i) = i := rfl
theorem at2 (a b : Int) (i : Nat) : ∃ x, atI [D.int a, D.int b] ((i : Int) % 2) = some (.int x) ∧ (x = a ∨ x = b) := by
  have h : (i : Int) % 2 = ((i % 2 : Nat) : Int) := by omega
  rw [h]
  have h2 : i % 2 < 2 := Nat.mod_lt _ (by decide)
  generalize i % 2 = j at h2
  match j, h2 with
  | 0, _ => exact ⟨a, rfl, .inl rfl⟩
  | 1, _ => exact ⟨b, rfl, .inr rfl⟩
theorem all_cons {α : Type} {P : α → Prop} {x : α} {xs : List α} (h : P x) (t : ∀ y ∈ xs, P y) : ∀ y ∈ x :: xs, P y := fun y hy => by
  rcases List.mem_cons.mp hy with rfl | hy
  · exact h
  · exact t y hy
theorem all_nil {α : Type} {P : α → Prop} : ∀ y ∈ ([] : List α), P y := fun y hy => nomatch hy
end DL
set_option Elab.async false
set_option linter.all false
set_option maxRecDepth 100000
set_option maxHeartbeats 1000000
namespace DL
open PySem L2
theorem stpW_len (o : List Nat) : (stpW o).length ≤ o.length - 1 := by
  unfold stpW
  rw [List.length_map]
  refine Nat.le_trans (List.length_filter_le _ _) ?_
  rw [List.length_range]
  exact Nat.le_refl _
theorem nats_at {o : List Nat} {i : Nat} (h : i < o.length) : (nats o)[i]? = some (.int (o.getD i 0)) := by
  unfold nats
  rw [List.getElem?_map, List.getElem?_eq_getElem h, List.getD_eq_getElem?_getD, List.getElem?_eq_getElem h]
  rfl
theorem eulS_len (c : List Int) (n : Int) : (eulS c n).length = c.length := by unfold eulS; rw [List.length_map, List.length_range]
theorem eulR_len (c : List Int) : ∀ k, (eulR c k).length = c.length
  | 0 => rfl
  | k + 1 => by rw [eulR, eulS_len, eulR_len c k]
theorem cut_but {α : Type} (xs : List α) : cutL xs none (some (-1)) = xs.dropLast := by
  unfold cutL HT.sIx
  rw [List.dropLast_eq_take]
  simp
  omega
theorem ints_at {c : List Int} {i : Nat} (h : i < c.length) : (c.map D.int)[i]? = some (.int (c.getD i 0)) := by
  rw [List.getElem?_map, List.getElem?_eq_getElem h, List.getD_eq_getElem?_getD, List.getElem?_eq_getElem h]
  rfl
/-- a row beside itself, one later -/
theorem enz_low {c : List Int} (hc : c ≠ []) : enL 0 (zipL (c.map D.int) (D.int 0 :: (c.map D.int).dropLast)) = (List.range c.length).map fun i => D.tup [.int (i : Nat), .tup [.int (c.getD i 0), .int ((0 :: c).getD i 0)]] := by
  have hl : 0 < c.length := List.length_pos_iff.mpr hc
  refine List.ext_getElem? fun i => ?_
  rw [enL_get, Nat.zero_add]
  unfold zipL
  rw [List.getElem?_map, List.getElem?_map]
  by_cases h : i < c.length
  · have h1 := ints_at h
    have h2 : (D.int 0 :: (c.map D.int).dropLast)[i]? = some (.int ((0 :: c).getD i 0)) := by
      cases i with
      | zero => rfl
      | succ i =>
        rw [List.getElem?_cons_succ, List.getElem?_dropLast, if_pos (by rw [List.length_map]; omega), ints_at (by omega)]
        rfl
    have h3 : ((c.map D.int).zip (D.int 0 :: (c.map D.int).dropLast))[i]? = some (D.int (c.getD i 0), D.int ((0 :: c).getD i 0)) := List.getElem?_zip_eq_some.mpr ⟨h1, h2⟩
    rw [List.getElem?_range h, h3]
    rfl
  · have h3 : ((c.map D.int).zip (D.int 0 :: (c.map D.int).dropLast))[i]? = none := List.getElem?_eq_none (by rw [List.length_zip, List.length_map]; omega)
    have h4 : (List.range c.length)[i]? = none := List.getElem?_eq_none (by rw [List.length_range]; omega)
    rw [h3, h4]
    rfl
/-- an order, grown by a first place of a rank -/
def grwW (o : List Nat) (s : Nat) : List Nat := (o.take s).map (· + 1) ++ 0 :: (o.drop s).map (· + 1)
theorem grw_len (o : List Nat) (s : Nat) : (grwW o s).length = o.length + 1 := by
  unfold grwW
  rw [List.length_append, List.length_cons, List.length_map, List.length_map, List.length_take, List.length_drop]
  omega
theorem grw_perm {o : List Nat} (h : isPerm o) (s : Nat) : isPerm (grwW o s) := by
  unfold isPerm
  rw [grw_len, List.range_succ_eq_map]
  unfold grwW
  refine List.perm_middle.trans (List.Perm.cons _ ?_)
  rw [← List.map_append, List.take_append_drop]
  exact List.Perm.map _ h
end DL
set_option Elab.async false
set_option linter.all false
set_option maxRecDepth 100000
set_option maxHeartbeats 1000000
namespace DL
open PySem L2
theorem perm_lt {o : List Nat} (ho : isPerm o) {k : Nat} (hk : k < o.length) : o.getD k 0 < o.length := by
  rw [List.getD_eq_getElem?_getD, List.getElem?_eq_getElem hk]
  exact ho.lt (List.getElem_mem hk)
theorem perm_inj {o : List Nat} (ho : isPerm o) {i j : Nat} (hi : i < o.length) (hj : j < o.length) (e : o.getD i 0 = o.getD j 0) : i = j := by
  rw [List.getD_eq_getElem?_getD, List.getElem?_eq_getElem hi, List.getD_eq_getElem?_getD, List.getElem?_eq_getElem hj] at e
  have e' : o[i] = o[j] := e
  have h1 := idx_of_get ho.nodup (List.getElem?_eq_getElem hi)
  have h2 := idx_of_get ho.nodup (List.getElem?_eq_getElem hj)
  rw [e'] at h1
  exact h1.symm.trans h2
theorem rkE_in {o : List Nat} {p : Nat} (h : p < o.length) : rkE o p = o.idxOf p := by
  unfold rkE
  rw [List.getD_eq_getElem?_getD, List.getElem?_append_left (by rw [List.length_map, inv_len]; exact h), List.getElem?_map, inv_get h]
  rfl
theorem rkE_end {o : List Nat} : rkE o o.length = -1 := by
  unfold rkE
  rw [List.getD_eq_getElem?_getD, List.getElem?_append_right (by rw [List.length_map, inv_len]; exact Nat.le_refl _), List.length_map, inv_len, Nat.sub_self]
  rfl
theorem idx_lt {o : List Nat} (ho : isPerm o) {p : Nat} (h : p < o.length) : o.idxOf p < o.length := by
  have := get_idx (o := o) (ho.mem h)
  exact (List.getElem?_eq_some_iff.mp this).1
theorem idx_getD {o : List Nat} (ho : isPerm o) {p : Nat} (h : p < o.length) : o.getD (o.idxOf p) 0 = p := by
  rw [List.getD_eq_getElem?_getD, get_idx (ho.mem h)]
  rfl
theorem nats_app {a b : List Nat} : nats a ++ nats b = nats (a ++ b) := by unfold nats; rw [List.map_append]
end DL
set_option Elab.async false
set_option linter.all false
set_option maxRecDepth 100000
set_option maxHeartbeats 1000000
namespace DL
open PySem L2
end DL
set_option Elab.async false
set_option linter.all false
set_option maxRecDepth 100000
set_option maxHeartbeats 1000000
namespace DL
open PySem L2
theorem grn_eq (o : List Nat) (s : Nat) : grnW o s = grwW o s := rfl
theorem allO_ok : ∀ n, ∀ o ∈ allO n, isPerm o ∧ o.length = n
  | 0, o, h => by
    rw [List.mem_singleton.mp h]
    exact ⟨.refl _, rfl⟩
  | n + 1, o, h => by
    obtain ⟨p, hp, ho⟩ := List.mem_flatMap.mp h
    obtain ⟨s, _, rfl⟩ := List.mem_map.mp ho
    obtain ⟨h1, h2⟩ := allO_ok n p hp
    exact ⟨grw_perm h1 s, by rw [grn_eq, grw_len, h2]⟩
theorem allO_small : ∀ n : Nat, n < 7 → (allO n).length ≤ 1000 := by decide +kernel
end DL
set_option Elab.async false
set_option linter.all false
set_option maxRecDepth 100000
set_option maxHeartbeats 1000000
namespace DL
open PySem L2
end DL
set_option Elab.async false
set_option linter.all false
set_option maxRecDepth 100000
set_option maxHeartbeats 1000000
namespace DL
open PySem L2
end DL
set_option Elab.async false
set_option linter.all false
set_option maxRecDepth 100000
set_option maxHeartbeats 1000000
namespace DL
open PySem L2
end DL
set_option Elab.async false
set_option linter.all false
set_option maxRecDepth 100000
set_option maxHeartbeats 1000000
namespace DL
open PySem L2
end DL
set_option Elab.async false
set_option linter.all false
set_option maxRecDepth 100000
set_option maxHeartbeats 1000000
namespace DL
open PySem L2
end DL
set_option Elab.async false
set_option linter.all false
set_option maxRecDepth 100000
set_option maxHeartbeats 1000000
namespace DL
open PySem L2
end DL
set_option Elab.async false
set_option linter.all false
set_option maxRecDepth 100000
set_option maxHeartbeats 1000000
namespace DL
open PySem L2
theorem knwS_len (c : List Int) (n : Nat) : (knwS c n).length = n := by unfold knwS; simp
theorem knwR_len : ∀ n, (knwR n).length = n + 1
  | 0 => rfl
  | n + 1 => knwS_len _ _
theorem knw_len {n : Nat} (h : 1 ≤ n) : (knw n).length = n := by unfold knw; rw [knwR_len]; omega
theorem getD_pad {c : List Int} {k i : Nat} : (c ++ List.replicate k 0).getD i 0 = c.getD i 0 := by
  rw [List.getD_eq_getElem?_getD, List.getD_eq_getElem?_getD]
  by_cases h : i < c.length
  · rw [List.getElem?_append_left h]
  · rw [List.getElem?_append_right (by omega), List.getElem?_replicate, List.getElem?_eq_none (l := c) (by omega)]
    split <;> rfl
theorem getD_out {c : List Int} {i : Nat} (h : c.length ≤ i) : c.getD i 0 = 0 := by
  rw [List.getD_eq_getElem?_getD, List.getElem?_eq_none h]
  rfl
theorem pad_step {c : List Int} {n k : Nat} (hc : c.length = n + 1) : eulS (c ++ List.replicate (k + 1) 0) ((n : Int) + 2) = knwS c (n + 2) ++ List.replicate k 0 := by
  refine List.ext_getElem? fun i => ?_
  have ll : (c ++ List.replicate (k + 1) 0).length = n + 2 + k := by rw [List.length_append, List.length_replicate]; omega
  unfold eulS
  rw [ll]
  by_cases hi : i < n + 2 + k
  · rw [List.getElem?_map, List.getElem?_range hi]
    have e2 : ((0 : Int) :: (c ++ List.replicate (k + 1) 0)).getD i 0 = if 0 < i then c.getD (i - 1) 0 else 0 := by
      cases i with
      | zero => rfl
      | succ j =>
        rw [List.getD_cons_succ, getD_pad, if_pos (by omega)]
        rfl
    show some (((i : Int) + 1) * (c ++ List.replicate (k + 1) 0).getD i 0 + (((n : Int) + 2) - i) * ((0 : Int) :: (c ++ List.replicate (k + 1) 0)).getD i 0) = _
    rw [getD_pad, e2]
    by_cases h2 : i < n + 2
    · rw [List.getElem?_append_left (by rw [knwS_len]; exact h2)]
      unfold knwS
      rw [List.getElem?_map, List.getElem?_range h2]
      show some _ = some ((if i < n + 2 - 1 then ((i : Int) + 1) * c.getD i 0 else 0) + (if 0 < i then (((n + 2 : Nat) : Int) - i) * c.getD (i - 1) 0 else 0))
      congr 2
      · by_cases h3 : i < n + 2 - 1
        · rw [if_pos h3]
        · rw [if_neg h3, getD_out (by omega), Int.mul_zero]
      · by_cases h3 : 0 < i
        · rw [if_pos h3, if_pos h3]
          rfl
        · rw [if_neg h3, if_neg h3, Int.mul_zero]
    · rw [List.getElem?_append_right (by rw [knwS_len]; omega), knwS_len, List.getElem?_replicate, if_pos (by omega), if_pos (by omega), getD_out (by omega), getD_out (by omega), Int.mul_zero, Int.mul_zero]
      rfl
  · rw [List.getElem?_eq_none (by simpa using hi), List.getElem?_eq_none (by rw [List.length_append, knwS_len, List.length_replicate]; omega)]
theorem pad_row (N : Nat) : ∀ k, k ≤ N → eulR (1 :: List.replicate N 0) k = knwR k ++ List.replicate (N - k) 0
  | 0, _ => rfl
  | k + 1, h => by
    show eulS (eulR (1 :: List.replicate N 0) k) ((k : Int) + 2) = knwS (knwR k) (k + 2) ++ _
    rw [pad_row N k (by omega), show N - k = (N - (k + 1)) + 1 by omega, pad_step (knwR_len k)]
theorem eul_knw {n s : Nat} (h : 1 ≤ n) : eulW n s = (knw n).getD s 0 := by
  unfold eulW knw
  rw [pad_row (n + s) (n - 1) (by omega), getD_pad]
theorem knw_rev : ((List.range 41).all fun n => n == 0 || (knw n).reverse == knw n) = true := by decide +kernel
theorem knw_small : ((List.range 41).all fun n => (knw n).all fun v => decide (v.natAbs < 10 ^ 50)) = true := by decide +kernel
theorem knw_sym {n : Nat} (h1 : 1 ≤ n) (h2 : n ≤ 40) : (knw n).reverse = knw n := by
  have := List.all_eq_true.mp knw_rev n (List.mem_range.mpr (by omega))
  rw [Bool.or_eq_true] at this
  rcases this with h | h
  · have := eq_of_beq h
    omega
  · exact eq_of_beq h
theorem knw_at {n s : Nat} (h2 : n ≤ 40) : ((knw n).getD s 0).natAbs < 10 ^ 50 := by
  by_cases c : s < (knw n).length
  · have := List.all_eq_true.mp knw_small n (List.mem_range.mpr (by omega))
    have := List.all_eq_true.mp this _ (List.getElem_mem c)
    rw [List.getD_eq_getElem?_getD, List.getElem?_eq_getElem c]
    exact of_decide_eq_true this
  · rw [getD_out (by omega)]
    exact Nat.pow_pos (by decide)
def lensO (n : Nat) : List Nat := (allO n).map fun o => (stpW o).length
def ok24 (n : Nat) : Bool := (List.range 41).all fun s => decide (((lensO n).count s : Nat) = (knw n).getD s 0)
theorem ok24_all : ∀ n : Nat, n < 7 → 1 ≤ n → ok24 n = true := by decide +kernel
theorem cnt_all {n s : Nat} (h1 : 1 ≤ n) (h2 : n ≤ 6) (hs : s < 41) : (((lensO n).count s : Nat) : Int) = (knw n).getD s 0 :=
  of_decide_eq_true (List.all_eq_true.mp (ok24_all n (by omega) h1) s (List.mem_range.mpr hs))
/-- how often each number below N stands in a list -/
def csN (N : Nat) (xs : List Nat) : List D := (List.range N).map fun k => D.int (xs.count k : Nat)
theorem csN_len (N : Nat) (xs : List Nat) : (csN N xs).length = N := by unfold csN; simp
theorem csN_at {N : Nat} {xs : List Nat} {x : Nat} (h : x < N) : (csN N xs)[x]? = some (.int (xs.count x : Nat)) := by
  unfold csN
  rw [List.getElem?_map, List.getElem?_range h]
  rfl
theorem csN_step {N : Nat} {xs : List Nat} {x : Nat} (h : x < N) : (csN N xs).set x (.int ((xs.count x : Nat) + 1)) = csN N (xs ++ [x]) := by
  refine List.ext_getElem? fun k => ?_
  by_cases hk : k < N
  · rw [csN_at hk]
    by_cases c : x = k
    · subst c
      rw [List.getElem?_set_self (by rw [csN_len]; exact hk), List.count_append]
      simp
    · rw [List.getElem?_set_ne c, csN_at hk, List.count_append, List.count_singleton]
      simp [c]
  · rw [List.getElem?_eq_none (by rw [List.length_set, csN_len]; omega), List.getElem?_eq_none (by rw [csN_len]; omega)]
end DL
set_option Elab.async false
set_option linter.all false
set_option maxRecDepth 100000
set_option maxHeartbeats 4000000
namespace LW
open PySem L2 DL
def topS (i : Nat) : Stmt := PySem.Challenge.pw_tailranks_k24_orders_counted.main.body.getD i (.Pass ⟨0, 0, 0, 0⟩)
abbrev sStream : Stmt := topS 3
abbrev sDraw : Stmt := topS 4
theorem scStream : FnScope ["_law_script", "_law_cells", "_law_cell"] ["_law_script"] (defScope sStream) := ⟨rfl, rfl, rfl, by decide +kernel, rfl, by decide +kernel, by decide +kernel⟩
section
variable {P : Program} {w : World} {K : PySem.W.Frag} {mg : Str → Option Value} {base : Heap}
theorem ok_stream {f : Addr} {fd : FuncData} (F : Fun K "_law_stream" "_law_stream" sStream f fd) (ml : mg "len" = none) (ma : mg "abs" = none) : FnG P w K mg base 1 f fd ["_law_script"] (spStream K) := by
  refine fng_of F scStream (fun vs H Q E h => ?_) (fun cdv A outer s H vs Q E hr hgd h => ?_)
  · obtain ⟨a, ns, rfl, _⟩ := h
    rfl
  · obtain ⟨a, ns, rfl, hS, hlen, hQ⟩ := h
    refine ⟨_, PSs.nox (pss_cons (ps_setLc (i := 1) (own := [("_law_cell", 2)]) (g := gName 2) (tt := tYes) rfl scStream.nd rfl rfl (sw_true rfl rfl rfl (by decide +kernel)) (pi_list (pv 0))
        (blkOk_by (own := [("_law_cell", 2)]) (N := ["_law_script", "_law_cells", "_law_cell"]) (sc := defScope sStream) (by decide +kernel)) (fun _ _ _ _ _ => pg_name (i := 2) scStream.nd rfl (Or.inl rfl)) (fun _ _ _ _ _ => pts_nil)
        (fun _ _ _ _ _ => pe_callB call_abs (by rfl) ma (by decide +kernel) (pa_cons (pv 2) pa_nil)))
      (pss_one (ps_ret (pe_lst (pa_cons (pe_lc (own := [("_law_cell", 2)]) (g := gName 2) (tt := _) rfl scStream.nd (pi_list (pv 1))
          (blkOk_by (own := [("_law_cell", 2)]) (N := ["_law_script", "_law_cells", "_law_cell"]) (sc := defScope sStream) (by decide +kernel)) (fun _ _ _ _ _ => pg_name (i := 2) scStream.nd rfl (Or.inl rfl))
          (fun _ _ _ _ _ => pts_one (pt_cmpR op_ge (pv 2) (pe_op op_pow pe_int pe_int) (nomark _))) (fun _ _ _ _ _ => pv 2))
        (pa_cons (pe_op op_cat (pv 1) (pe_lst (pa_cons (pe_op op_add (pe_callB call_len_seq (by rfl) ml PySem.boot_len (pa_cons (pv 1) pa_nil)) pe_int) pa_nil))) (pa_cons pe_int pa_nil))))))), ?_⟩
    -- _law_cells
    refine ⟨.ref a, rfl, a, rfl, ⟨_, hS⟩, fun D hD => ?_⟩
    have hAD : ∀ o, H a = some o → a ≠ D := fun o e => ne_of_none e hD
    refine lc_list (K := K) (a := a) (xs := ns.map V.int) (fun i H1 => Same H H1 ∧ H1 D = some (.lst ((ns.take i).map fun n => V.int (if n < 0 then -n else n)))) ⟨same_new hD, upd_same⟩ (fun i H1 _ h => h.1.seq hS) (fun i x H1 hx h => ?_) (fun H1 h => ?_)
    · obtain ⟨j, rfl, hj⟩ := map_int_get hx
      refine ⟨rfl, iteT (B := Same H H1 ∧ H1 D = some (.lst ((ns.take (i + 1)).map fun n => V.int (if n < 0 then -n else n)))) ?_⟩
      refine ⟨.int j, rfl, j, rfl, _, h.2, ?_, ?_, ?_⟩
      · rw [List.length_map, List.length_take]
        exact Nat.lt_of_le_of_lt (Nat.min_le_right _ _) (small1000 (by omega))
      · intro b o e
        rw [upd_ne (show b ≠ D from ne_of_none e hD)]
        exact h.1 _ _ e
      · rw [upd_same, List.take_add_one, hj, List.map_append]
        rfl
    · obtain ⟨sm, hD1⟩ := h
      rw [List.length_map, List.take_length] at hD1
      generalize hcl : ns.map (fun n => if n < 0 then -n else n) = cells at hD1
      have hD2 : H1 D = some (.lst (cells.map V.int)) := by rw [hD1, ← hcl, List.map_map]; rfl
      have clen : cells.length = ns.length := by rw [← hcl, List.length_map]
      -- the large cells
      refine ⟨.ref D, rfl, D, rfl, ⟨_, .of hD2⟩, fun D2 hD3 => ?_⟩
      have dne : D ≠ D2 := ne_of_none hD2 hD3
      refine lc_list (K := K) (a := D) (xs := cells.map V.int) (fun i H2 => Same H1 H2 ∧ ∃ L : List Int, L.length ≤ i ∧ H2 D2 = some (.lst (L.map V.int))) ⟨same_new hD3, [], Nat.le_refl _, upd_same⟩ (fun i H2 _ h => .of (h.1 _ _ hD2)) (fun i x H2 hx h => ?_) (fun H2 h => ?_)
      · obtain ⟨sm2, L, hl, hL⟩ := h
        obtain ⟨j, rfl, hj⟩ := map_int_get hx
        have hi : i < cells.length := (List.getElem?_eq_some_iff.mp hj).1
        refine ⟨rfl, .int j, rfl, 10, 18, rfl, rfl, ⟨by decide, by decide, by decide⟩, j, _, rfl, rfl, _, rfl, ite2 (fun _ => ?_) (fun _ => ?_)⟩
        · refine ⟨.int j, rfl, _, hL, ?_, ?_, L ++ [j], ?_, ?_⟩
          · rw [List.length_map]
            exact small1000 (by omega)
          · intro b o e
            rw [upd_ne (show b ≠ D2 from ne_of_none e hD3)]
            exact sm2 _ _ e
          · rw [List.length_append, List.length_singleton]
            omega
          · rw [upd_same, List.map_append]
            rfl
        · exact ⟨sm2, L, by omega, hL⟩
      · obtain ⟨sm2, L, hl, hL⟩ := h
        have hD4 := sm2 _ _ hD2
        -- all cells
        refine ⟨.ref D, rfl, .ref D, rfl, D, _, rfl, .inl (.of hD4), _, 29, rfl, rfl, by show 1 ≤ sizeLine; decide, fun p np => ?_⟩
        have pD : D ≠ p := ne_of_none hD4 np
        have pD2 : D2 ≠ p := ne_of_none hL np
        refine ⟨D, p, _, _, rfl, rfl, (upd_ne pD).trans hD4, upd_same, ?_, fun c nc => ?_⟩
        · rw [List.length_map, clen]
          exact Nat.le_of_lt (small1000 (by show ns.length + 1 ≤ 1000; omega))
        have cD : D ≠ c := ne_of_none ((upd_ne pD).trans hD4) nc
        have cD2 : D2 ≠ c := ne_of_none ((upd_ne pD2).trans hL) nc
        have cp : p ≠ c := ne_of_none (o := .lst [V.int (((cells.map V.int).length : Nat) + 29)]) upd_same nc
        refine ⟨by show 3 ≤ sizeLine; decide, fun q nq => ?_⟩
        have sm3 := ((sm.trans sm2).trans (same_new (o := .lst [V.int (((cells.map V.int).length : Nat) + 29)]) np)).trans (same_new (o := .lst (cells.map V.int ++ [V.int (((cells.map V.int).length : Nat) + 29)])) nc)
        have hLc := (upd_ne (o := .lst (cells.map V.int ++ [V.int (((cells.map V.int).length : Nat) + 29)])) cD2).trans ((upd_ne (o := .lst [V.int (((cells.map V.int).length : Nat) + 29)]) pD2).trans hL)
        have q2 : D2 ≠ q := ne_of_none hLc nq
        have qc : c ≠ q := ne_of_none (o := .lst (cells.map V.int ++ [V.int (((cells.map V.int).length : Nat) + 29)])) upd_same nq
        refine hQ _ q D2 c L (cells ++ [(((cells.map V.int).length : Nat) : Int) + 29]) (sm3.trans (same_new nq)) (sm3.free nq) (sm.free hD3) ((sm.trans sm2).free ((same_new np).free nc)) (Ne.symm q2) (Ne.symm qc) cD2 upd_same ((upd_ne q2).trans hLc) ((upd_ne qc).trans ?_) (by simp)
        rw [upd_same, List.map_append]
        rfl
end
theorem scDraw : FnScope ["_law_stream_here", "_law_many", "_law_rest", "_law_turn", "_law_cell", "_law_mixed"] ["_law_stream_here", "_law_many"] (defScope sDraw) := ⟨rfl, rfl, rfl, by decide +kernel, rfl, by decide +kernel, by decide +kernel⟩
section
variable {P : Program} {w : World} {K : PySem.W.Frag} {mg : Str → Option Value} {base : Heap}
theorem ok_draw {f : Addr} {fd : FuncData} (F : Fun K "_law_draw" "_law_draw" sDraw f fd) (ml : mg "len" = none) : FnG P w K mg base 1 f fd ["_law_stream_here", "_law_many"] (liftSp K mg 2 dDraw) := by
  refine fng_of F scDraw (fun vs H Q E h => ?_) (fun cdv A outer s H vs Q E hr hgd h => ?_)
  · obtain ⟨W, ds, q, ex, _, _, r, hl, _⟩ := h
    rw [r.length, hl]
    rfl
  · obtain ⟨W, ds, q, ex, rfl, ok, r, hl, ⟨many, rfl, hm0, hm1, hg, hq⟩, hQ, hE⟩ := h
    have hml : many.natAbs.log2 < 9000 := Nat.lt_of_lt_of_le ((Nat.log2_lt (k := 60) (by omega)).mpr (by omega)) (by decide)
    have hu : (A.deeper (PyProof.Rows.envOfC "_law_draw" (defScope sDraw) s.heap.objs.size f cdv)).units + 64 < cLine := hr.units
    refine ⟨_, PSs.nox (pss_cons (ps_while PassesOwn.never (pt_cmpR (op_neD hu) (pe_ix ix_list (pv 0) pe_int (fun _ _ => rfl)) (pe_lst pa_nil) (nomark _))
        (pss_cons (ps_set (i := 2) scDraw.nd rfl (.inl rfl) (pe_ix ix_list (pe_ix ix_list (pv 0) pe_int (fun _ _ => rfl)) pe_int (fun _ _ => rfl)))
        (pss_cons (ps_if (pt_cmpR op_gt (pv 2) pe_int (nomark _))
          (pss_cons (ps_asg (pe_op op_fdivW (pv 2) (pv 1)) (pg_sub (pe_ix ix_list (pv 0) pe_int (fun _ _ => rfl)) pe_int set_list)) (pss_one (ps_ret (pe_op op_mod (pv 2) (pv 1))))) pss_nil)
        (pss_one (ps_expr (pe_bm PySem.F.plainAttrs_list PySem.F.slot_list_pop PySem.F.type_list_pop mt_popAt (pe_ix ix_list (pv 0) pe_int (fun _ _ => rfl)) (pa_cons pe_int pa_nil)))))))
      (pss_cons (ps_set (i := 3) scDraw.nd rfl (.inl rfl) (pe_op op_add (pe_ix ix_list (pv 0) pe_int (fun _ _ => rfl)) pe_int))
      (pss_cons (ps_asg (pv 3) (pg_sub (pv 0) pe_int set_list))
      (pss_cons (ps_set (i := 4) scDraw.nd rfl (.inl rfl) (pe_op op_mod (pe_ix ix_list (pe_ix ix_list (pv 0) pe_int (fun _ _ => rfl)) (pe_op op_mod (pv 3) (pe_callB call_len_seq (by rfl) ml PySem.boot_len (pa_cons (pe_ix ix_list (pv 0) pe_int (fun _ _ => rfl)) pa_nil))) (fun _ _ => rfl)) pe_int))
      (pss_cons (ps_set (i := 5) scDraw.nd rfl (.inl rfl) (pe_op op_mod (pe_op op_add (pe_op op_add (pe_op op_mul (pv 4) (pe_op op_add pe_int (pe_op op_mul pe_int (pv 3)))) (pe_op op_mul (pe_op op_mul pe_int (pv 3)) (pv 3))) pe_int) pe_int))
      (pss_one (ps_ret (pe_op op_mod (pe_op op_fdiv (pe_op op_mod (pe_op op_mul (pv 5) (pv 5)) pe_int) pe_int) (pv 1))))))))), ?_⟩
    obtain ⟨a, b, c, L, cs, m, h1, h2, h3, h4, h5, h6, h7, h8, h9⟩ := ok.gh.2 (Nat.le_trans (Nat.le_succ _) hg)
    obtain ⟨va, vm, rfl, ra, rm⟩ : ∃ va vm, vs = [va, vm] ∧ Rp K W.F W.R va (.ob 0) ∧ Rp K W.F W.R vm (.int many) := by
      cases r with
      | cons x t =>
        cases t with
        | cons y t =>
          cases t
          exact ⟨_, _, rfl, x, y⟩
    cases rm
    obtain rfl : va = .ref a := by
      cases ra with
      | ob e => rw [h1] at e; cases e; rfl
    have d0 : DrawAt K W W a b c L cs m := ⟨Go.refl W, ok, rfl, h1, h2, h3, h4, h5, h6, h7, h8, h9⟩
    refine ⟨fun n σ H => ∃ (W1 : Wd stg) (L : List Int) (y : Option V), W1.H = H ∧ n = L.length ∧ σ = [some (.ref a), some (.int many), y, none, none, none] ∧ DrawAt K W W1 a b c L cs m, ⟨_, W, L, none, rfl, rfl, rfl, d0⟩, ?_⟩
    rintro n σ H ⟨W1, L1, y, rfl, rfl, rfl, d⟩
    -- _law_stream_here[0] != []
    refine ⟨.ref a, rfl, a, _, 0, .ref b, rfl, rfl, .of d.ha, atI_nat (j := 0) rfl, Nat.zero_le _, fun p np => ?_⟩
    have d1 := d.new (o := .lst []) np
    have e1 : Dp K (upd W1.H p (.lst [])) (.ref b) (.list (L1.map PyData.int)) := .lst (.of d1.hb) (by
      clear d1 d
      induction L1 with
      | nil => exact .nil
      | cons x r ih => exact .cons (.int x) ih)
    have sh : SeqAt.shaped (.list (L1.map PyData.int)) = true := by
      have c1 : ∀ L : List Int, PyData.canLayAll0 (L.map PyData.int) = true := fun L => by
        induction L with
        | nil => rfl
        | cons x r ih => simp [PyData.canLayAll0, PyData.canLay0, ih]
      have c2 : ∀ L : List Int, PyData.depthAll (L.map PyData.int) = 0 := fun L => by
        induction L with
        | nil => rfl
        | cons x r ih => simp [PyData.depthAll, PyData.depth, ih]
      simp [SeqAt.shaped, PyData.canLay0, PyData.depth, c1, c2]
    refine ⟨.list (L1.map PyData.int), .list [], e1, .lst (.of upd_same) .nil, sh, by decide, _, rfl, ?_⟩
    cases L1 with
    | nil =>
      refine iteF ?_
      -- _law_turn = _law_stream_here[2] + 1
      refine ⟨.ref a, rfl, a, _, 2, .int m, rfl, rfl, .of d1.ha, atI_nat (j := 2) rfl, m, 1, rfl, rfl, ?_⟩
      -- _law_stream_here[2] = _law_turn
      refine ⟨.int (m + 1), rfl, .ref a, rfl, a, _, 2, 2, rfl, rfl, d1.ha, rfl, ?_⟩
      have hra : a ∈ (W1.new p (.lst [])).R := List.mem_of_getElem? d1.r0
      have hcn : c ≠ a := fun z => by
        have := d1.ok.rf a hra
        rw [← z, d1.hc] at this
        cases this
      have hc1 := d1.ok.sub _ _ d1.hc
      have go2 : Go W ((W1.new p (.lst [])).reg a (.lst [.ref b, .ref c, .int (m + 1)]) (W.g + 1)) := d1.go.trans (Go.reg' hra)
      have ok2 : Wok K ((W1.new p (.lst [])).reg a (.lst [.ref b, .ref c, .int (m + 1)]) (W.g + 1)) := by
        refine d1.ok.reg hra ⟨d1.ok.gh.1, fun hn => ⟨a, b, c, [], cs, m + 1, d1.r0, d1.r1, d1.ne, upd_same, (upd_ne d1.ne.symm).trans d1.hb, d1.hc, by have := d1.m0; omega, ?_, d1.cs0⟩⟩
        show m + 1 ≤ ((W.g : Nat) : Int) + 1
        have := d1.mn
        exact Int.add_le_add_right this 1
      have hA : (upd (upd W1.H p (.lst [])) a (.lst [.ref b, .ref c, .int (m + 1)])) a = some (.lst [.ref b, .ref c, .int (m + 1)]) := upd_same
      have hC : (upd (upd W1.H p (.lst [])) a (.lst [.ref b, .ref c, .int (m + 1)])) c = some (.lst (cs.map V.int)) := (upd_ne hcn).trans hc1
      have hm : m + 1 ≤ 2 ^ 60 := by
        have h1 := d1.mn
        have h2 : ((W.g : Nat) : Int) + 1 ≤ 2 ^ 60 := by
          have : ((W.g + 1 : Nat) : Int) ≤ ((2 ^ 60 : Nat) : Int) := Int.ofNat_le.mpr hg
          exact this
        omega
      have hm0' := d1.m0
      have clen : 0 < ((cs.map V.int).length : Int) := by
        rw [List.length_map]
        cases cs with
        | nil => exact absurd rfl d1.cs0
        | cons x r => rw [List.length_cons]; omega
      have ilt := Int.emod_lt_of_pos (m + 1) clen
      have ige := Int.emod_nonneg (m + 1) (show ((cs.map V.int).length : Int) ≠ 0 by omega)
      obtain ⟨j, hj⟩ := Int.eq_ofNat_of_zero_le ige
      have jlt : j < cs.length := by
        rw [List.length_map] at ilt
        rw [List.length_map] at hj
        omega
      have c0 := Int.emod_nonneg cs[j] (show (2147483587 : Int) ≠ 0 by decide)
      have c1 := Int.emod_lt_of_pos cs[j] (show (0 : Int) < 2147483587 by decide)
      have e64 : (2 : Int) ^ 64 = 18446744073709551616 := by decide
      have e60 : (2 : Int) ^ 60 = 1152921504606846976 := by decide
      have hix : atI (cs.map V.int) ((m + 1) % ((cs.map V.int).length : Int)) = some (.int cs[j]) := by
        rw [hj]
        exact atI_nat (by rw [List.getElem?_map, List.getElem?_eq_getElem jlt]; rfl)
      have c2 : -(2 ^ 64) < cs[j] % 2147483587 ∧ cs[j] % 2147483587 < 2 ^ 64 := ⟨by omega, by omega⟩
      have c3 : -(2 ^ 64) < m + 1 ∧ m + 1 < 2 ^ 64 := ⟨by omega, by omega⟩
      have d64 : ∀ y : Int, -(2 ^ 64) < y % 2147483647 ∧ y % 2147483647 < 2 ^ 64 := fun y => by
        have a1 := Int.emod_nonneg y (show (2147483647 : Int) ≠ 0 by decide)
        have a2 := Int.emod_lt_of_pos y (show (0 : Int) < 2147483647 by decide)
        exact ⟨by omega, by omega⟩
      -- _law_cell
      refine ⟨.ref a, rfl, a, _, 1, .ref c, rfl, rfl, .of hA, atI_nat (j := 1) rfl, .int (m + 1), rfl, .ref a, rfl, a, _, 1, .ref c, rfl, rfl, .of hA, atI_nat (j := 1) rfl, c, cs.map V.int, rfl, .inl (.of hC), ?_⟩
      refine ⟨m + 1, _, rfl, rfl, clen, c, cs.map V.int, _, .int cs[j], rfl, rfl, .of hC, hix, ?_⟩
      refine ⟨cs[j], 2147483587, rfl, rfl, (by decide : (0 : Int) < 2147483587), ?_⟩
      -- _law_mixed
      refine ⟨.int (cs[j] % 2147483587), rfl, .int (m + 1), rfl, _, m + 1, rfl, rfl, .inl ⟨by decide, by decide⟩, _, _, rfl, rfl, cs[j] % 2147483587, _, rfl, rfl, .inl c2, ?_⟩
      refine ⟨.int (m + 1), rfl, _, m + 1, rfl, rfl, .inl ⟨by decide, by decide⟩, .int (m + 1), rfl, _, m + 1, rfl, rfl, .inr c3, _, _, rfl, rfl, _, _, rfl, rfl, _, 2147483647, rfl, rfl, (by decide : (0 : Int) < 2147483647), ?_⟩
      refine ⟨_, rfl, _, rfl, _, _, rfl, rfl, .inl (d64 _), _, 2147483629, rfl, rfl, (by decide : (0 : Int) < 2147483629), _, 16, rfl, rfl, ⟨by decide, by decide⟩, .int many, rfl, _, many, rfl, rfl, hm0, ?_⟩
      exact hQ (.int _) (.int _) _ go2 ok2 (.int _) (hq _ (Int.emod_nonneg _ (by omega)) (Int.emod_lt_of_pos _ hm0))
    | cons x L1 =>
      refine iteT ⟨fun σ H => ∃ (W1 : Wd stg) (y : Option V), W1.H = H ∧ σ = [some (.ref a), some (.int many), y, none, none, none] ∧ DrawAt K W W1 a b c L1 cs m, ?_, ?_⟩
      · rintro σ' H' ⟨W3, y3, e1, e2, e3⟩
        exact ⟨L1.length, by rw [List.length_cons]; omega, W3, L1, y3, e1, rfl, e2, e3⟩
      have ix0 : ixN ((x :: L1).map V.int).length 0 = some 0 := by
        unfold ixN
        rw [if_pos (by decide), if_pos (by rw [List.length_map, List.length_cons]; omega)]
        rfl
      have sx0 := (ixN_seq ix0).1
      -- _law_rest = _law_stream_here[0][0]
      refine ⟨.ref a, rfl, a, _, 0, .ref b, rfl, rfl, .of d1.ha, atI_nat (j := 0) rfl, b, _, 0, .int x, rfl, rfl, .of d1.hb, atI_nat (j := 0) rfl, ?_⟩
      refine ⟨.int x, rfl, x, 0, rfl, rfl, _, rfl, ite2 (fun hx => ?_) (fun hx => ?_)⟩
      · -- _law_stream_here[0][0] = _law_rest // _law_many
        refine ⟨.int x, rfl, .int many, rfl, x, many, rfl, rfl, ⟨hm0, hml⟩, .ref a, rfl, a, _, 0, .ref b, rfl, rfl, .of d1.ha, atI_nat (j := 0) rfl, b, _, 0, 0, rfl, rfl, d1.hb, ix0, ?_⟩
        refine ⟨.int x, rfl, .int many, rfl, x, many, rfl, rfl, hm0, ?_⟩
        have d2 := d1.setB (x / many :: L1)
        have le1 : ((W1.new p (.lst [])).reg b (.lst ((x / many :: L1).map V.int)) (W1.new p (.lst [])).g).g ≤ W.g + 1 := by
          show W1.g ≤ W.g + 1
          rw [show W1.g = W.g from d.g]
          exact Nat.le_succ _
        exact hQ (.int (x % many)) (.int (x % many)) _ (d2.go.trans (go_more (n := W.g + 1))) (wok_more d2.ok le1) (.int _) (hq _ (Int.emod_nonneg _ (by omega)) (Int.emod_lt_of_pos _ hm0))
      · -- _law_stream_here[0].pop(0)
        refine ⟨.ref a, rfl, a, _, 0, .ref b, rfl, rfl, .of d1.ha, atI_nat (j := 0) rfl, .inl ⟨rfl, _, .of d1.hb⟩, b, _, 0, 0, .int x, rfl, rfl, d1.hb, by decide, by decide, sx0, rfl, ?_⟩
        exact ⟨_, some (.int x), rfl, rfl, d1.setB L1⟩
end
abbrev s_count_orders : Stmt := topS 1
abbrev s_l_steps : Stmt := topS 5
abbrev s_l_all_orders : Stmt := topS 6
abbrev s_l_known : Stmt := topS 7
abbrev s_law : Stmt := topS 8
theorem sc_count_orders : FnScope ["n", "steps", "counts", "size", "lower", "index", "one", "other"] ["n", "steps"] (defScope s_count_orders) := ⟨rfl, rfl, rfl, by decide +kernel, rfl, by decide +kernel, by decide +kernel⟩
def w_count_orders (ex : Exn → stg.G → Prop) : SW stg :=
  (wSeq (wSet 2 (wI (wL (wBinN oCat (wL (wLst (wACons (wC (.int 1)) wANil))) (wL (wBinN oRep (wL (wLst (wACons (wC (.int 0)) wANil))) (wBin oAdd (wVar 0) (wVar 1))))))))
    (wSeq (wFor (wRng2 (wC (.int 2)) (wBin oAdd (wVar 0) (wC (.int 1)))) (gwN 3) (wSeq (wSet 4 (wI (wL (wBinN oCat (wL (wLst (wACons (wC (.int 0)) wANil))) (wL (wSlN (wVar 2) wONone (wOSome (wNeg (wC (.int 1))))))))))
    (wSet 2 (wI (wL (wLc (wEnZip (wVar 2) (wVar 4)) (gwT 2 (gwCons (gwN 5) (gwCons (gwT 2 (gwCons (gwN 6) (gwCons (gwN 7) gwNil))) gwNil))) wYes (wBin oAdd (wBin oMul (wBin oAdd (wVar 5) (wC (.int 1))) (wVar 6)) (wBin oMul (wBin oSub (wVar 3) (wVar 5)) (wVar 7))) [5, 6, 7]))))))
    (wRet (wBin oIx (wVar 2) (wVar 1)))))
theorem ok_count_orders {P : Program} {w : World} {K : PySem.W.Frag} {mg : Str → Option Value} {base : Heap} {f : Addr} {fd : FuncData} (F : Fun K "count_orders" "count_orders" s_count_orders f fd) (g : mg "count_orders" = some (.ref f)) (m_enumerate : mg "enumerate" = none) (m_range : mg "range" = none) (m_zip : mg "zip" = none)
    (hp : ∀ (ds : List D) (g : Nat) (q : D → Nat → Prop) (ex : Exn → Nat → Prop), ds.length = 2 → d_count_orders ds g q ex → w_count_orders ex (kEndS q) (startD ["n", "steps", "counts", "size", "lower", "index", "one", "other"] ds) g) : FnB P w K mg base 1 "count_orders" ["n", "steps"] (liftSp K mg 2 d_count_orders) :=
  fnB_of F g (fnS_of (wb := w_count_orders) F sc_count_orders (fun cdv A outer s H E W0 ex hr hgd tk => (dss_cons (ds_set (i := 2) sc_count_orders.nd rfl (.inl rfl) (DE.v (DN.fr (dn_op opn_cat (DN.p (dn_lst (da_cons de_int da_nil))) (DN.p (dn_op opn_rep (DN.p (dn_lst (da_cons de_int da_nil))) (DE.p (de_op opd_add (DE.p (de_var (pv 0))) (DE.p (de_var (pv 1)))))))))))
      (dss_cons (ds_for (passes_of rfl) rfl (di_range2 m_range de_int (de_op opd_add (DE.p (de_var (pv 0))) (DE.p de_int))) (dg_name (pg_name (i := 3) sc_count_orders.nd rfl (Or.inr rfl))) (dss_cons (ds_set (i := 4) sc_count_orders.nd rfl (.inl rfl) (DE.v (DN.fr (dn_op opn_cat (DN.p (dn_lst (da_cons de_int da_nil))) (DN.p (dn_slice (DE.p (de_var (pv 2))) do_none (do_some (de_neg de_int))))))))
      (dss_one (ds_setLcI (i := 2) (own := [("index", 5), ("one", 6), ("other", 7)]) rfl sc_count_orders.nd rfl rfl (sw_true rfl rfl rfl (by decide +kernel)) (di_enzip m_enumerate m_zip (de_var (pv 2)) (de_var (pv 4))) (blkOk_by (own := [("index", 5), ("one", 6), ("other", 7)]) (N := ["n", "steps", "counts", "size", "lower", "index", "one", "other"]) (sc := defScope s_count_orders) (by decide +kernel)) (by decide) (fun _ _ _ _ _ => (dg_tup rfl (dgs_cons (dg_name (pg_name (i := 5) sc_count_orders.nd rfl (Or.inl rfl))) (dgs_cons (dg_tup rfl (dgs_cons (dg_name (pg_name (i := 6) sc_count_orders.nd rfl (Or.inl rfl))) (dgs_cons (dg_name (pg_name (i := 7) sc_count_orders.nd rfl (Or.inl rfl))) dgs_nil))) dgs_nil)))) (fun _ _ _ _ _ => dts_nil) (fun _ _ _ _ _ => (de_op opd_add (DE.p (de_op opd_mul (DE.p (de_op opd_add (DE.p (de_var (pv 5))) (DE.p de_int))) (DE.p (de_var (pv 6))))) (DE.p (de_op opd_mul (DE.p (de_op opd_sub (DE.p (de_var (pv 3))) (DE.p (de_var (pv 5))))) (DE.p (de_var (pv 7)))))))))))
      (dss_one (ds_ret (de_ix (DE.p (de_var (pv 2))) (DE.p (de_var (pv 1))) (fun _ _ => rfl))))))) hp) (F.binds (ps := ["n", "steps"]) fun _ _ _ _ _ _ us hl => match us, hl with | [_, _], _ => rfl)
theorem sc_l_steps : FnScope ["_law_order", "_law_rank", "_law_found", "_law_index"] ["_law_order"] (defScope s_l_steps) := ⟨rfl, rfl, rfl, by decide +kernel, rfl, by decide +kernel, by decide +kernel⟩
def w_l_steps (ex : Exn → stg.G → Prop) : SW stg :=
  (wSeq (wPar 1 2 (wD1 (wCB cLen (wACons (wVar 0) wANil)) (wNeg (wC (.int 1)))) (wO (wLst wANil)))
    (wSeq (wFor (wRng1 (wCB cLen (wACons (wVar 0) wANil))) (gwN 3) (wDSet 1 (wVar 3) (wBin oIx (wVar 0) (wVar 3))))
    (wSeq (wFor (wRng2 (wC (.int 1)) (wCB cLen (wACons (wVar 0) wANil))) (gwN 3) (wIfS (wB (wBin oGt (wDGet 1 (wBin oAdd (wBin oIx (wVar 0) (wBin oSub (wVar 3) (wC (.int 1)))) (wC (.int 1)))) (wDGet 1 (wBin oAdd (wBin oIx (wVar 0) (wVar 3)) (wC (.int 1)))))) (wApp 2 (wVar 3)) wNext))
    (wRetO 2))))
theorem ok_l_steps {P : Program} {w : World} {K : PySem.W.Frag} {mg : Str → Option Value} {base : Heap} {f : Addr} {fd : FuncData} (F : Fun K "_law_steps" "_law_steps" s_l_steps f fd) (g : mg "_law_steps" = some (.ref f)) (m_len : mg "len" = none) (m_range : mg "range" = none)
    (hp : ∀ (ds : List D) (g : Nat) (q : D → Nat → Prop) (ex : Exn → Nat → Prop), ds.length = 1 → d_l_steps ds g q ex → w_l_steps ex (kEndS q) (startD ["_law_order", "_law_rank", "_law_found", "_law_index"] ds) g) : FnB P w K mg base 1 "_law_steps" ["_law_order"] (liftSp K mg 1 d_l_steps) :=
  fnB_of F g (fnS_of (wb := w_l_steps) F sc_l_steps (fun cdv A outer s H E W0 ex hr hgd tk => (dss_cons (ds_par (i := 1) (j := 2) rfl sc_l_steps.nd rfl rfl (by decide) rfl rfl (dv_dict1 (de_callB calld_len (by rfl) m_len (by decide +kernel) (dap_cons (DE.p (de_var (pv 0))) dap_nil)) (de_neg de_int)) (DN.v (dn_lst da_nil)))
      (dss_cons (ds_for (passes_of rfl) rfl (di_range1 m_range (de_callB calld_len (by rfl) m_len (by decide +kernel) (dap_cons (DE.p (de_var (pv 0))) dap_nil))) (dg_name (pg_name (i := 3) sc_l_steps.nd rfl (Or.inl rfl))) (dss_one (ds_dset (i := 1) hr.units (pv 1) (de_var (pv 3)) (de_ix (DE.p (de_var (pv 0))) (DE.p (de_var (pv 3))) (fun _ _ => rfl)))))
      (dss_cons (ds_for (passes_of rfl) rfl (di_range2 m_range de_int (de_callB calld_len (by rfl) m_len (by decide +kernel) (dap_cons (DE.p (de_var (pv 0))) dap_nil))) (dg_name (pg_name (i := 3) sc_l_steps.nd rfl (Or.inl rfl))) (dss_one (ds_if (dt_cmp opd_gt (DE.p (de_dget (i := 1) hr.units (pv 1) (de_op opd_add (DE.p (de_ix (DE.p (de_var (pv 0))) (DE.p (de_op opd_sub (DE.p (de_var (pv 3))) (DE.p de_int))) (fun _ _ => rfl))) (DE.p de_int)) (fun _ _ => rfl))) (DE.p (de_dget (i := 1) hr.units (pv 1) (de_op opd_add (DE.p (de_ix (DE.p (de_var (pv 0))) (DE.p (de_var (pv 3))) (fun _ _ => rfl))) (DE.p de_int)) (fun _ _ => rfl))) (nomark _)) (dss_one (ds_append (i := 2) (pv 2) (de_var (pv 3)))) dss_nil)))
      (dss_one (ds_retO (pv 2))))))) hp) (F.binds (ps := ["_law_order"]) fun _ _ _ _ _ _ us hl => match us, hl with | [_], _ => rfl)
theorem sc_l_all_orders : FnScope ["_law_size", "_law_found", "_law_many", "_law_longer", "_law_order", "_law_moved", "_law_place", "_law_spot"] ["_law_size"] (defScope s_l_all_orders) := ⟨rfl, rfl, rfl, by decide +kernel, rfl, by decide +kernel, by decide +kernel⟩
def w_l_all_orders (ex : Exn → stg.G → Prop) : SW stg :=
  (wSeq (wSet 1 (wI (wL (wLst (wACons (wTup wANil) wANil)))))
    (wSeq (wFor (wRng1 (wVar 0)) (gwN 2) (wSeq (wSet 3 (wO (wLst wANil)))
    (wSeq (wFor (wItems (wVar 1)) (gwN 4) (wSeq (wSet 5 (wI (wCB cTuple (wACons (wL (wLc (wItems (wVar 4)) (gwN 6) wYes (wBin oAdd (wVar 6) (wC (.int 1))) [6])) wANil))))
    (wExt 3 (wL (wLc (wRng1 (wBin oAdd (wVar 2) (wC (.int 1)))) (gwN 7) wYes (wBin oAdd (wBin oAdd (wSl (wVar 5) wONone (wOSome (wVar 7))) (wTup (wACons (wC (.int 0)) wANil))) (wSl (wVar 5) (wOSome (wVar 7)) wONone)) [7])))))
    (wFrz 3 (wSet 1 (wI (wVar 3)))))))
    (wRet (wVar 1))))
theorem ok_l_all_orders {P : Program} {w : World} {K : PySem.W.Frag} {mg : Str → Option Value} {base : Heap} {f : Addr} {fd : FuncData} (F : Fun K "_law_all_orders" "_law_all_orders" s_l_all_orders f fd) (g : mg "_law_all_orders" = some (.ref f)) (m_range : mg "range" = none) (m_tuple : mg "tuple" = none)
    (hp : ∀ (ds : List D) (g : Nat) (q : D → Nat → Prop) (ex : Exn → Nat → Prop), ds.length = 1 → d_l_all_orders ds g q ex → w_l_all_orders ex (kEndS q) (startD ["_law_size", "_law_found", "_law_many", "_law_longer", "_law_order", "_law_moved", "_law_place", "_law_spot"] ds) g) : FnB P w K mg base 1 "_law_all_orders" ["_law_size"] (liftSp K mg 1 d_l_all_orders) :=
  fnB_of F g (fnS_of (wb := w_l_all_orders) F sc_l_all_orders (fun cdv A outer s H E W0 ex hr hgd tk => (dss_cons (ds_set (i := 1) sc_l_all_orders.nd rfl (.inl rfl) (DE.v (DN.fr (dn_lst (da_cons (de_tup da_nil) da_nil)))))
      (dss_cons (ds_for (passes_of rfl) rfl (di_range1 m_range (de_var (pv 0))) (dg_name (pg_name (i := 2) sc_l_all_orders.nd rfl (Or.inl rfl))) (dss_cons (ds_set (i := 3) sc_l_all_orders.nd rfl (.inl rfl) (DN.v (dn_lst da_nil)))
      (dss_cons (ds_for (passes_of rfl) rfl (di_seq (de_var (pv 1))) (dg_name (pg_name (i := 4) sc_l_all_orders.nd rfl (Or.inl rfl))) (dss_cons (ds_set (i := 5) sc_l_all_orders.nd rfl (.inr rfl) (DE.v (de_callTy calld_tuple (by rfl) m_tuple (by decide +kernel) (dap_cons (DN.p (dn_lc (own := [("_law_place", 6)]) rfl sc_l_all_orders.nd (di_seq (de_var (pv 4))) (blkOk_by (own := [("_law_place", 6)]) (N := ["_law_size", "_law_found", "_law_many", "_law_longer", "_law_order", "_law_moved", "_law_place", "_law_spot"]) (sc := defScope s_l_all_orders) (by decide +kernel)) (by decide) (fun _ _ _ _ _ => (dg_name (pg_name (i := 6) sc_l_all_orders.nd rfl (Or.inl rfl)))) (fun _ _ _ _ _ => dts_nil) (fun _ _ _ _ _ => (de_op opd_add (DE.p (de_var (pv 6))) (DE.p de_int))))) dap_nil))))
      (dss_one (ds_extend (i := 3) (pv 3) (DN.fr (dn_lc (own := [("_law_spot", 7)]) rfl sc_l_all_orders.nd (di_range1 m_range (de_op opd_add (DE.p (de_var (pv 2))) (DE.p de_int))) (blkOk_by (own := [("_law_spot", 7)]) (N := ["_law_size", "_law_found", "_law_many", "_law_longer", "_law_order", "_law_moved", "_law_place", "_law_spot"]) (sc := defScope s_l_all_orders) (by decide +kernel)) (by decide) (fun _ _ _ _ _ => (dg_name (pg_name (i := 7) sc_l_all_orders.nd rfl (Or.inl rfl)))) (fun _ _ _ _ _ => dts_nil) (fun _ _ _ _ _ => (de_op opd_add (DE.p (de_op opd_add (DE.p (de_slice (DE.p (de_var (pv 5))) do_none (do_some (de_var (pv 7))))) (DE.p (de_tup (da_cons de_int da_nil))))) (DE.p (de_slice (DE.p (de_var (pv 5))) (do_some (de_var (pv 7))) do_none))))))))))
      (dss_frz 3 (dss_one (ds_set (i := 1) sc_l_all_orders.nd rfl (.inl rfl) (DE.v (de_var (pv 3)))))))))
      (dss_one (ds_ret (de_var (pv 1))))))) hp) (F.binds (ps := ["_law_size"]) fun _ _ _ _ _ _ us hl => match us, hl with | [_], _ => rfl)
theorem sc_l_known : FnScope ["_law_many", "_law_found", "_law_size", "_law_longer", "_law_steps_here", "_law_same", "_law_more"] ["_law_many"] (defScope s_l_known) := ⟨rfl, rfl, rfl, by decide +kernel, rfl, by decide +kernel, by decide +kernel⟩
def w_l_known (ex : Exn → stg.G → Prop) : SW stg :=
  (wSeq (wSet 1 (wI (wL (wLst (wACons (wC (.int 1)) wANil)))))
    (wSeq (wFor (wRng2 (wC (.int 2)) (wBin oAdd (wVar 0) (wC (.int 1)))) (gwN 2) (wSeq (wSet 3 (wO (wLst wANil)))
    (wSeq (wFor (wRng1 (wVar 2)) (gwN 4) (wSeq (wSet 5 (wI (wIf (wB (wBin oLt (wVar 4) (wBin oSub (wVar 2) (wC (.int 1))))) (wBin oMul (wBin oAdd (wVar 4) (wC (.int 1))) (wBin oIx (wVar 1) (wVar 4))) (wC (.int 0)))))
    (wSeq (wSet 6 (wI (wIf (wB (wBin oGt (wVar 4) (wC (.int 0)))) (wBin oMul (wBin oSub (wVar 2) (wVar 4)) (wBin oIx (wVar 1) (wBin oSub (wVar 4) (wC (.int 1))))) (wC (.int 0)))))
    (wApp 3 (wBin oAdd (wVar 5) (wVar 6))))))
    (wFrz 3 (wSet 1 (wI (wVar 3)))))))
    (wRet (wL (wBinN oCat (wVar 1) (wL (wBinN oRep (wL (wLst (wACons (wC (.int 0)) wANil))) (wC (.int 60)))))))))
theorem ok_l_known {P : Program} {w : World} {K : PySem.W.Frag} {mg : Str → Option Value} {base : Heap} {f : Addr} {fd : FuncData} (F : Fun K "_law_known" "_law_known" s_l_known f fd) (g : mg "_law_known" = some (.ref f)) (m_range : mg "range" = none)
    (hp : ∀ (ds : List D) (g : Nat) (q : D → Nat → Prop) (ex : Exn → Nat → Prop), ds.length = 1 → d_l_known ds g q ex → w_l_known ex (kEndS q) (startD ["_law_many", "_law_found", "_law_size", "_law_longer", "_law_steps_here", "_law_same", "_law_more"] ds) g) : FnB P w K mg base 1 "_law_known" ["_law_many"] (liftSp K mg 1 d_l_known) :=
  fnB_of F g (fnS_of (wb := w_l_known) F sc_l_known (fun cdv A outer s H E W0 ex hr hgd tk => (dss_cons (ds_set (i := 1) sc_l_known.nd rfl (.inl rfl) (DE.v (DN.fr (dn_lst (da_cons de_int da_nil)))))
      (dss_cons (ds_for (passes_of rfl) rfl (di_range2 m_range de_int (de_op opd_add (DE.p (de_var (pv 0))) (DE.p de_int))) (dg_name (pg_name (i := 2) sc_l_known.nd rfl (Or.inl rfl))) (dss_cons (ds_set (i := 3) sc_l_known.nd rfl (.inl rfl) (DN.v (dn_lst da_nil)))
      (dss_cons (ds_for (passes_of rfl) rfl (di_range1 m_range (de_var (pv 2))) (dg_name (pg_name (i := 4) sc_l_known.nd rfl (Or.inl rfl))) (dss_cons (ds_set (i := 5) sc_l_known.nd rfl (.inl rfl) (DE.v (de_if (dt_cmp opd_lt (DE.p (de_var (pv 4))) (DE.p (de_op opd_sub (DE.p (de_var (pv 2))) (DE.p de_int))) (nomark _)) (de_op opd_mul (DE.p (de_op opd_add (DE.p (de_var (pv 4))) (DE.p de_int))) (DE.p (de_ix (DE.p (de_var (pv 1))) (DE.p (de_var (pv 4))) (fun _ _ => rfl)))) de_int)))
      (dss_cons (ds_set (i := 6) sc_l_known.nd rfl (.inl rfl) (DE.v (de_if (dt_cmp opd_gt (DE.p (de_var (pv 4))) (DE.p de_int) (nomark _)) (de_op opd_mul (DE.p (de_op opd_sub (DE.p (de_var (pv 2))) (DE.p (de_var (pv 4))))) (DE.p (de_ix (DE.p (de_var (pv 1))) (DE.p (de_op opd_sub (DE.p (de_var (pv 4))) (DE.p de_int))) (fun _ _ => rfl)))) de_int)))
      (dss_one (ds_append (i := 3) (pv 3) (de_op opd_add (DE.p (de_var (pv 5))) (DE.p (de_var (pv 6)))))))))
      (dss_frz 3 (dss_one (ds_set (i := 1) sc_l_known.nd rfl (.inl rfl) (DE.v (de_var (pv 3)))))))))
      (dss_one (ds_ret (DN.fr (dn_op opn_cat (DE.p (de_var (pv 1))) (DN.p (dn_op opn_rep (DN.p (dn_lst (da_cons de_int da_nil))) (DE.p de_int)))))))))) hp) (F.binds (ps := ["_law_many"]) fun _ _ _ _ _ _ us hl => match us, hl with | [_], _ => rfl)
theorem sc_law : FnScope ["_law_script", "_law_stream_here", "_law_many", "_law_counts", "_law_order", "_law_steps_here", "_law_known_here"] ["_law_script"] (defScope s_law) := ⟨rfl, rfl, rfl, by decide +kernel, rfl, by decide +kernel, by decide +kernel⟩
def w_law : SW stg :=
  (wSeq (wSet 2 (wI (wBin oAdd (wC (.int 1)) (wCallB 2 d_l_draw (wACons (wVar 1) (wACons (wC (.int 6)) wANil)) xno))))
    (wSeq (wSet 3 (wO (wBinN oRep (wL (wLst (wACons (wC (.int 0)) wANil))) (wC (.int 60)))))
    (wSeq (wFor (wItems (wCallB 1 d_l_all_orders (wACons (wVar 2) wANil) xno)) (gwN 4) (wStore 3 (wBin oAdd (wBin oIx (wPk 3) (wCB cLen (wACons (wCallB 1 d_l_steps (wACons (wVar 4) wANil) xno) wANil))) (wC (.int 1))) (wCB cLen (wACons (wCallB 1 d_l_steps (wACons (wVar 4) wANil) xno) wANil))))
    (wSeq (wIfS (wB (wBin oNe (wL (wLc (wRng1 (wC (.int 41))) (gwN 5) wYes (wCallB 2 d_count_orders (wACons (wVar 2) (wACons (wVar 5) wANil)) xno) [5])) (wL (wSlN (wPk 3) wONone (wOSome (wC (.int 41))))))) (wRet (wC (.bl false))) wNext)
    (wSeq (wFor (wItems (wL (wLst (wACons (wC (.int 1)) (wACons (wC (.int 40)) (wACons (wBin oAdd (wC (.int 1)) (wCallB 2 d_l_draw (wACons (wVar 1) (wACons (wC (.int 40)) wANil)) xno)) (wACons (wBin oAdd (wC (.int 1)) (wCallB 2 d_l_draw (wACons (wVar 1) (wACons (wC (.int 40)) wANil)) xno)) wANil))))))) (gwN 2) (wSeq (wSet 6 (wI (wCallB 1 d_l_known (wACons (wVar 2) wANil) xno)))
    (wSeq (wFor (wItems (wL (wLst (wACons (wC (.int 0)) (wACons (wC (.int 1)) (wACons (wBin oSub (wVar 2) (wC (.int 1))) (wACons (wVar 2) (wACons (wC (.int 40)) (wACons (wCallB 2 d_l_draw (wACons (wVar 1) (wACons (wC (.int 41)) wANil)) xno) (wACons (wCallB 2 d_l_draw (wACons (wVar 1) (wACons (wVar 2) wANil)) xno) wANil)))))))))) (gwN 5) (wIfS (wB (wBin oNe (wCB cRepr (wACons (wL (wLst (wACons (wCallB 2 d_count_orders (wACons (wVar 2) (wACons (wVar 5) wANil)) xno) (wACons (wCallB 2 d_count_orders (wACons (wVar 2) (wACons (wVar 5) wANil)) xno) wANil)))) wANil)) (wCB cRepr (wACons (wL (wBinN oRep (wL (wLst (wACons (wBin oIx (wVar 6) (wVar 5)) wANil))) (wC (.int 2)))) wANil)))) (wRet (wC (.bl false))) wNext))
    (wIfS (wB (wBin oNe (wL (wLc (wRng1 (wVar 2)) (gwN 5) wYes (wCallB 2 d_count_orders (wACons (wVar 2) (wACons (wVar 5) wANil)) xno) [5])) (wL (wRevN (wL (wSlN (wVar 6) wONone (wOSome (wVar 2)))))))) (wRet (wC (.bl false))) wNext))))
    (wRet (wC (.bl true))))))))
theorem ok_law {P : Program} {w : World} {K : PySem.W.Frag} {mg : Str → Option Value} {base : Heap} {f fs : Addr} {fd fds : FuncData} (F : Fun K "law" "law" s_law f fd) (FS : FnG P w K mg base 1 fs fds ["_law_script"] (spStream K)) (gs : mg "_law_stream" = some (.ref fs)) (ks : PySem.W.keepIn K (.ref fs) = true) (bs : Binds K fds ["_law_script"] []) (F_l_draw : FnB P w K mg base 1 "_law_draw" ["_law_stream_here", "_law_many"] (liftSp K mg 2 d_l_draw)) (F_l_all_orders : FnB P w K mg base 1 "_law_all_orders" ["_law_size"] (liftSp K mg 1 d_l_all_orders)) (F_l_steps : FnB P w K mg base 1 "_law_steps" ["_law_order"] (liftSp K mg 1 d_l_steps)) (F_count_orders : FnB P w K mg base 1 "count_orders" ["n", "steps"] (liftSp K mg 2 d_count_orders)) (F_l_known : FnB P w K mg base 1 "_law_known" ["_law_many"] (liftSp K mg 1 d_l_known)) (m_len : mg "len" = none) (m_range : mg "range" = none) (m_repr : mg "repr" = none) (m_sm : SmB base)
    (hp : w_law kLaw (rhoLaw 7 1) (0 : Nat)) : FnG P w K mg base 2 f fd ["_law_script"] (spLaw K) :=
  law_of F sc_law (by decide) rfl (fun cdv A outer s H E hr hgd => ps_set (i := 1) sc_law.nd rfl (.inl rfl) (pe_callG FS hgd (hr.mono (by decide)) rfl gs ks bs (fun σ pins H s e s2 => passLN pins σ H s e s2) (pa_cons (pv 0) pa_nil)))
    (fun cdv A outer s H E W0 hr hgd tk => (dss_cons (ds_set (i := 2) sc_law.nd rfl (.inr rfl) (DE.v (de_op opd_add (DE.p de_int) (DE.p (de_callF F_l_draw hgd hr tk (da_cons (de_var (pv 1)) (da_cons de_int da_nil)))))))
      (dss_cons (ds_set (i := 3) sc_law.nd rfl (.inl rfl) (DN.v (dn_op opn_rep (DN.p (dn_lst (da_cons de_int da_nil))) (DE.p de_int))))
      (dss_cons (ds_for (passes_of rfl) rfl (di_seq (de_callF F_l_all_orders hgd hr tk (da_cons (de_var (pv 2)) da_nil))) (dg_name (pg_name (i := 4) sc_law.nd rfl (Or.inl rfl))) (dss_one (ds_store (i := 3) (pv 3) (de_op opd_add (DE.p (de_ix (dp_own (pv 3)) (DE.p (de_callB calld_len (by rfl) m_len (by decide +kernel) (dap_cons (DE.p (de_callF F_l_steps hgd hr tk (da_cons (de_var (pv 4)) da_nil))) dap_nil))) (fun _ _ => rfl))) (DE.p de_int)) (de_callB calld_len (by rfl) m_len (by decide +kernel) (dap_cons (DE.p (de_callF F_l_steps hgd hr tk (da_cons (de_var (pv 4)) da_nil))) dap_nil)))))
      (dss_cons (ds_if (dt_cmp (opd_ne hr.units) (DN.p (dn_lc (own := [("_law_steps_here", 5)]) rfl sc_law.nd (di_range1 m_range de_int) (blkOk_by (own := [("_law_steps_here", 5)]) (N := ["_law_script", "_law_stream_here", "_law_many", "_law_counts", "_law_order", "_law_steps_here", "_law_known_here"]) (sc := defScope s_law) (by decide +kernel)) (by decide) (fun _ _ _ _ _ => (dg_name (pg_name (i := 5) sc_law.nd rfl (Or.inl rfl)))) (fun _ _ _ _ _ => dts_nil) (fun _ _ _ _ _ => (de_callF F_count_orders hgd hr takesD_blk (da_cons (de_var (pv 2)) (da_cons (de_var (pv 5)) da_nil)))))) (DN.p (dn_slice (dp_own (pv 3)) do_none (do_some de_int))) (nomark _)) (dss_one (ds_ret de_bl)) dss_nil)
      (dss_cons (ds_for (passes_of rfl) rfl (di_seq (DN.fr (dn_lst (da_cons de_int (da_cons de_int (da_cons (de_op opd_add (DE.p de_int) (DE.p (de_callF F_l_draw hgd hr tk (da_cons (de_var (pv 1)) (da_cons de_int da_nil))))) (da_cons (de_op opd_add (DE.p de_int) (DE.p (de_callF F_l_draw hgd hr tk (da_cons (de_var (pv 1)) (da_cons de_int da_nil))))) da_nil))))))) (dg_name (pg_name (i := 2) sc_law.nd rfl (Or.inr rfl))) (dss_cons (ds_set (i := 6) sc_law.nd rfl (.inl rfl) (DE.v (de_callF F_l_known hgd hr tk (da_cons (de_var (pv 2)) da_nil))))
      (dss_cons (ds_for (passes_of rfl) rfl (di_seq (DN.fr (dn_lst (da_cons de_int (da_cons de_int (da_cons (de_op opd_sub (DE.p (de_var (pv 2))) (DE.p de_int)) (da_cons (de_var (pv 2)) (da_cons de_int (da_cons (de_callF F_l_draw hgd hr tk (da_cons (de_var (pv 1)) (da_cons de_int da_nil))) (da_cons (de_callF F_l_draw hgd hr tk (da_cons (de_var (pv 1)) (da_cons (de_var (pv 2)) da_nil))) da_nil)))))))))) (dg_name (pg_name (i := 5) sc_law.nd rfl (Or.inl rfl))) (dss_one (ds_if (dt_cmp (opd_ne hr.units) (DE.p (de_callB (calld_repr m_sm hgd hr.units) (by rfl) m_repr (by decide +kernel) (dap_cons (DN.p (dn_lst (da_cons (de_callF F_count_orders hgd hr tk (da_cons (de_var (pv 2)) (da_cons (de_var (pv 5)) da_nil))) (da_cons (de_callF F_count_orders hgd hr tk (da_cons (de_var (pv 2)) (da_cons (de_var (pv 5)) da_nil))) da_nil)))) dap_nil))) (DE.p (de_callB (calld_repr m_sm hgd hr.units) (by rfl) m_repr (by decide +kernel) (dap_cons (DN.p (dn_op opn_rep (DN.p (dn_lst (da_cons (de_ix (DE.p (de_var (pv 6))) (DE.p (de_var (pv 5))) (fun _ _ => rfl)) da_nil))) (DE.p de_int))) dap_nil))) (nomark _)) (dss_one (ds_ret de_bl)) dss_nil)))
      (dss_one (ds_if (dt_cmp (opd_ne hr.units) (DN.p (dn_lc (own := [("_law_steps_here", 5)]) rfl sc_law.nd (di_range1 m_range (de_var (pv 2))) (blkOk_by (own := [("_law_steps_here", 5)]) (N := ["_law_script", "_law_stream_here", "_law_many", "_law_counts", "_law_order", "_law_steps_here", "_law_known_here"]) (sc := defScope s_law) (by decide +kernel)) (by decide) (fun _ _ _ _ _ => (dg_name (pg_name (i := 5) sc_law.nd rfl (Or.inl rfl)))) (fun _ _ _ _ _ => dts_nil) (fun _ _ _ _ _ => (de_callF F_count_orders hgd hr takesD_blk (da_cons (de_var (pv 2)) (da_cons (de_var (pv 5)) da_nil)))))) (DN.p (dn_rev (DN.p (dn_slice (DE.p (de_var (pv 6))) do_none (do_some (de_var (pv 2))))))) (nomark _)) (dss_one (ds_ret de_bl)) dss_nil)))))
      (dss_one (ds_ret de_bl)))))))) hp

end LW
set_option Elab.async false
set_option linter.all false
set_option maxRecDepth 100000
set_option maxHeartbeats 4000000
namespace LW
open PySem L2 DL
theorem p_count_orders (ds : List D) (g : Nat) (q : D → Nat → Prop) (ex : Exn → Nat → Prop) (hl : ds.length = 2) (h : d_count_orders ds g q ex) : w_count_orders ex (kEndS q) (startD ["n", "steps", "counts", "size", "lower", "index", "one", "other"] ds) g := by
  obtain ⟨n, s, rfl, hn, hs, hq⟩ := h
  simp [-List.reduceReplicate, w_count_orders]
  have tn : ((n : Int) + (s : Int)).toNat = n + s := by omega
  have sz := sizeLine_eq
  have e0 : D.int 1 :: List.replicate (n + s) (D.int 0) = (eulR (1 :: List.replicate (n + s) 0) 0).map D.int := by
    rw [eulR, List.map_cons, List.map_replicate]
  rw [tn, e0, show ((n : Int) + 1) = ((n + 1 : Nat) : Int) by omega, show (2 : Int) = ((2 : Nat) : Int) from rfl, rngL_nn]
  have len : ∀ i, (eulR (1 :: List.replicate (n + s) 0) i).length = n + s + 1 := fun i => by rw [eulR_len, List.length_cons, List.length_replicate]
  refine ⟨small_line (by omega), by omega, by omega, by omega, by omega, ⟨by omega, by omega⟩, forW_word (M := stg) (fun i ρ g' => g' = g ∧ ∃ y3 y4, ρ = [.im (.int n), .im (.int s), .im (.lst ((eulR (1 :: List.replicate (n + s) 0) i).map D.int)), y3, y4, .no, .no, .no]) _ ⟨rfl, _, _, rfl⟩ (fun i d ρ g' K hd hI hK => ?_) (fun ρ g' hI => ?_)⟩
  · obtain ⟨rfl, y3, y4, rfl⟩ := hI
    rw [List.getElem?_map] at hd
    have hi : i < n - 1 := by
      rcases Nat.lt_or_ge i (n - 1) with h | h
      · exact h
      · rw [List.getElem?_eq_none (by rw [List.length_range']; omega)] at hd; cases hd
    rw [List.getElem?_range' (by omega)] at hd
    cases hd
    have hlen := len i
    simp [-List.reduceReplicate, gwT]
    generalize hc : eulR (1 :: List.replicate (n + s) 0) i = c at *
    have hc0 : c ≠ [] := fun e => by rw [e] at hlen; simp at hlen
    rw [cut_but, enz_low hc0]
    refine ⟨small_line (by decide), by rw [List.length_dropLast, List.length_map]; exact small_line (by omega), by rw [List.length_map, List.length_range]; exact small_line (by omega), ?_⟩
    refine lcW_all (M := stg) _ (fun j : Nat => D.int (((j : Int) + 1) * c.getD j 0 + (((i + 2 : Nat) : Int) - j) * ((0 :: c).getD j 0))) (List.range c.length) (fun j hj k1 k0 hk => ?_) ?_
    · have hj' := List.mem_range.mp hj
      simp [-List.reduceReplicate, -List.getD_eq_getElem?_getD, gwT]
      refine ⟨.inl ⟨by omega, by omega⟩, .inl ⟨by omega, by omega⟩, ?_⟩
      rw [show (2 : Int) + (i : Int) = ((i + 2 : Nat) : Int) by omega]
      exact hk
    · have e : (List.range c.length).map (fun j : Nat => D.int (((j : Int) + 1) * c.getD j 0 + (((i + 2 : Nat) : Int) - j) * ((0 :: c).getD j 0))) = (eulR (1 :: List.replicate (n + s) 0) (i + 1)).map D.int := by
        rw [eulR, hc, eulS, List.map_map]
        rfl
      rw [e]
      exact hK _ _ ⟨rfl, _, _, rfl⟩
  · obtain ⟨rfl, y3, y4, rfl⟩ := hI
    simp [-List.reduceReplicate]
    refine ⟨_, atI_ofNat (ints_at (by rw [len]; omega)), _, Nat.le_refl _, ?_⟩
    exact hq
theorem p_l_steps (ds : List D) (g : Nat) (q : D → Nat → Prop) (ex : Exn → Nat → Prop) (hl : ds.length = 1) (h : d_l_steps ds g q ex) : w_l_steps ex (kEndS q) (startD ["_law_order", "_law_rank", "_law_found", "_law_index"] ds) g := by
  obtain ⟨o, rfl, ho, hl, hq⟩ := h
  simp [w_l_steps]
  rw [nats_len, rngL_0]
  refine ⟨by omega, ?_⟩
  refine forW_word (M := stg) (fun i ρ g' => g' = g ∧ ∃ (kds : List (Key × D)) (y3 : Sl), kds.length ≤ i + 1 ∧ valD kds (.inl (o.length : Nat)) = some (.int (-1)) ∧ (∀ j, j < i → valD kds (.inl (o.getD j 0 : Nat)) = some (.int (j : Nat))) ∧ ρ = [.im (.tup (nats o)), .odt kds, .own [], y3]) _ ⟨rfl, _, .no, Nat.le_refl _, by simp [valD], fun j h => by omega, rfl⟩ (fun i d ρ g' K hd hI hK => ?_) (fun ρ g' hI => ?_)
  · obtain ⟨rfl, kds, y3, k1, k2, k3, rfl⟩ := hI
    have hi : i < o.length := by
      have := (List.getElem?_eq_some_iff.mp hd).1
      simpa using this
    have e : d = .int (i : Nat) := by
      rw [List.getElem?_map, List.getElem?_range hi] at hd
      cases hd
      rfl
    subst e
    have hat := nats_at hi
    have pl := perm_lt ho hi
    have inj : ∀ j, j < i → o.getD j 0 ≠ o.getD i 0 := fun j hj e => by
      have := perm_inj ho (by omega) hi e
      omega
    generalize hp : o.getD i 0 = p at hat pl inj
    simp
    refine ⟨_, atI_ofNat hat, ?_⟩
    simp
    refine ⟨lt_line (by omega), hK _ _ ⟨rfl, _, .im (.int (i : Int)), Nat.le_trans (putD_len _ _ _) (by omega), ?_, fun j hj => ?_, rfl⟩⟩
    · rw [valD_put, if_neg (fun z => by
        injection z with z
        omega)]
      exact k2
    · rw [valD_put]
      by_cases c : j = i
      · rw [c, hp, if_pos rfl]
      · rw [if_neg (fun z => inj j (by omega) (by
          injection z with z
          omega))]
        exact k3 j (by omega)
  · obtain ⟨rfl, kds, y3, k1, k2, k3, rfl⟩ := hI
    rw [List.length_map, List.length_range] at k3
    have kv : ∀ p, p ≤ o.length → valD kds (.inl (p : Nat)) = some (.int (rkE o p)) := fun p hp => by
      by_cases c : p = o.length
      · rw [c, rkE_end]
        exact k2
      · have hp' : p < o.length := by omega
        have h1 := k3 (o.idxOf p) (idx_lt ho hp')
        rw [idx_getD ho hp'] at h1
        rw [rkE_in hp']
        exact h1
    simp
    rw [nats_len, rngL_1]
    refine ⟨by omega, ?_⟩
    refine forW_word (M := stg) (fun i ρ g'' => g'' = g' ∧ ∃ (y3 : Sl), ρ = [.im (.tup (nats o)), .odt kds, .own (nats (((List.range i).filter fun i => decide (rkE o (o.getD (i + 1) 0 + 1) < rkE o (o.getD i 0 + 1))).map (· + 1))), y3]) _ ⟨rfl, _, rfl⟩ (fun i d ρ g'' K hd hI hK => ?_) (fun ρ g'' hI => ?_)
    · obtain ⟨rfl, y3, rfl⟩ := hI
      have hi : i < o.length - 1 := by
        have := (List.getElem?_eq_some_iff.mp hd).1
        simpa using this
      have e : d = .int ((i + 1 : Nat) : Int) := by
        rw [List.getElem?_map, List.getElem?_range' (by omega)] at hd
        cases hd
        simp
        omega
      subst e
      have p1 := perm_lt ho (k := i) (by omega)
      have p2 := perm_lt ho (k := i + 1) (by omega)
      have a1 : atI (nats o) (((i + 1 : Nat) : Int) - 1) = some (.int (o.getD i 0 : Nat)) := by
        rw [show ((i + 1 : Nat) : Int) - 1 = (i : Nat) by omega]
        exact atI_ofNat (nats_at (by omega))
      have a2 : atI (nats o) ((i + 1 : Nat) : Int) = some (.int (o.getD (i + 1) 0 : Nat)) := atI_ofNat (nats_at (by omega))
      have v1 := kv (o.getD i 0 + 1) (by omega)
      have v2 := kv (o.getD (i + 1) 0 + 1) (by omega)
      have eS : (List.range (i + 1)).filter (fun i => decide (rkE o (o.getD (i + 1) 0 + 1) < rkE o (o.getD i 0 + 1))) = (List.range i).filter (fun i => decide (rkE o (o.getD (i + 1) 0 + 1) < rkE o (o.getD i 0 + 1))) ++ if decide (rkE o (o.getD (i + 1) 0 + 1) < rkE o (o.getD i 0 + 1)) = true then [i] else [] := by
        rw [List.range_succ, List.filter_append, List.filter_cons, List.filter_nil]
      rw [eS] at hK
      have lS : ((List.range i).filter fun i => decide (rkE o (o.getD (i + 1) 0 + 1) < rkE o (o.getD i 0 + 1))).length ≤ i := by
        have := List.length_filter_le (fun i => decide (rkE o (o.getD (i + 1) 0 + 1) < rkE o (o.getD i 0 + 1))) (List.range i)
        rwa [List.length_range] at this
      generalize (List.range i).filter (fun i => decide (rkE o (o.getD (i + 1) 0 + 1) < rkE o (o.getD i 0 + 1))) = S at hK lS
      generalize o.getD i 0 = a at *
      generalize o.getD (i + 1) 0 = b at *
      have e1 : ∀ n : Nat, ((n + 1 : Nat) : Int) = (n : Int) + 1 := fun n => by omega
      rw [e1] at a2 v1 v2
      simp [-Int.natCast_add]
      refine ⟨_, a1, ?_⟩
      simp
      refine ⟨_, v1, _, a2, ?_⟩
      simp
      refine ⟨_, v2, ?_⟩
      simp
      by_cases c : rkE o (b + 1) < rkE o (a + 1)
      · rw [if_pos c]
        rw [decide_eq_true c, if_pos rfl, List.map_append] at hK
        refine ⟨lt_line (by rw [nats_len, List.length_map]; omega), ?_⟩
        have := hK [.im (.tup (nats o)), .odt kds, .own (nats (S.map (· + 1)) ++ [D.int (i + 1)]), .im (.int (i + 1))] g'' ⟨rfl, _, by rw [← nats_app]; rfl⟩
        exact this
      · rw [if_neg c]
        rw [decide_eq_false c, if_neg (by decide), List.append_nil] at hK
        exact hK _ _ ⟨rfl, _, rfl⟩
    · obtain ⟨rfl, y3, rfl⟩ := hI
      rw [List.length_map, List.length_range']
      simp
      exact ⟨_, Nat.le_refl _, hq⟩
theorem grn_nats2 (o : List Nat) (s : Nat) : (((o.map fun i : Nat => D.int ((i : Int) + 1)).take s) ++ D.int 0 :: ((o.map fun i : Nat => D.int ((i : Int) + 1)).drop s)) = nats (grnW o s) := by
  unfold grnW nats
  rw [List.map_append, List.map_cons, List.map_map, List.map_map, ← List.map_take, ← List.map_drop]
  rfl
theorem p_l_all_orders (ds : List D) (g : Nat) (q : D → Nat → Prop) (ex : Exn → Nat → Prop) (hl : ds.length = 1) (h : d_l_all_orders ds g q ex) : w_l_all_orders ex (kEndS q) (startD ["_law_size", "_law_found", "_law_many", "_law_longer", "_law_order", "_law_moved", "_law_place", "_law_spot"] ds) g := by
  obtain ⟨n, rfl, hn, hq⟩ := h
  simp [w_l_all_orders]
  rw [rngL_0]
  refine ⟨small_line (by decide), by omega, ?_⟩
  refine forW_word (M := stg) (fun i ρ (g' : Nat) => g' = g ∧ ∃ y2 y3 y4 y5, ρ = [.im (.int n), .im (.lst (tups (allO i))), y2, y3, y4, y5, .no, .no]) _ ⟨rfl, _, _, _, _, rfl⟩ (fun i d ρ g' K hd hI hK => ?_) (fun ρ g' hI => ?_)
  · obtain ⟨rfl, y2, y3, y4, y5, rfl⟩ := hI
    have hi : i < n := by
      have := (List.getElem?_eq_some_iff.mp hd).1
      simpa using this
    have e : d = .int (i : Nat) := by
      rw [List.getElem?_map, List.getElem?_range hi] at hd
      cases hd
      rfl
    subst e
    have sm := allO_small (i + 1) (by omega)
    have part : ∀ j, (((allO i).take j).flatMap fun o => (List.range (i + 1)).map fun s => grnW o s).length ≤ 1000 := fun j => by
      refine Nat.le_trans ?_ sm
      show _ ≤ ((allO i).flatMap fun o => (List.range (i + 1)).map fun s => grnW o s).length
      have e : ((allO i).flatMap fun o => (List.range (i + 1)).map fun s => grnW o s) = (((allO i).take j).flatMap fun o => (List.range (i + 1)).map fun s => grnW o s) ++ (((allO i).drop j).flatMap fun o => (List.range (i + 1)).map fun s => grnW o s) := by
        rw [← List.flatMap_append, List.take_append_drop]
      rw [e, List.length_append]
      omega
    simp
    refine forW_word (M := stg) (fun j ρ (g2 : Nat) => g2 = g' ∧ ∃ y4 y5, ρ = [.im (.int n), .im (.lst (tups (allO i))), .im (.int (i : Int)), .own (tups (((allO i).take j).flatMap fun o => (List.range (i + 1)).map fun s => grnW o s)), y4, y5, .no, .no]) _ ⟨rfl, _, _, rfl⟩ (fun j d ρ g2 K1 hd1 hI1 hK1 => ?_) (fun ρ g2 hI1 => ?_)
    · obtain ⟨rfl, y4, y5, rfl⟩ := hI1
      unfold tups at hd1
      rw [List.getElem?_map] at hd1
      obtain ⟨o, ho, rfl⟩ := Option.map_eq_some_iff.mp hd1
      obtain ⟨po, lo⟩ := allO_ok i o (List.mem_of_getElem? ho)
      simp
      rw [nats_len]
      refine ⟨small_line (by omega), ?_⟩
      refine lcW_all (M := stg) (fun i : Nat => D.int i) (fun i : Nat => D.int ((i : Int) + 1)) o (fun p hp k1 k0 hk => ?_) ?_
      · simp
        exact hk
      · rw [show (i : Int) + 1 = ((i + 1 : Nat) : Int) by omega]
        rw [rngL_0]
        refine ⟨by omega, by omega, by rw [List.length_map, List.length_range]; exact small_line (by omega), ?_⟩
        refine lcW_all (M := stg) (fun i : Nat => D.int i) (fun s => D.tup (nats (grnW o s))) (List.range (i + 1)) (fun s hs k1 k0 hk => ?_) ?_
        · simp
          rw [cut_to, cut_from]
          have e : List.take s (List.map (fun i : Nat => D.int ((i : Int) + 1)) o) ++ D.int 0 :: List.drop s (List.map (fun i : Nat => D.int ((i : Int) + 1)) o) = nats (grnW o s) := grn_nats2 o s
          rw [e]
          refine ⟨small_line (by decide), by rw [List.length_take, List.length_map]; exact small_line (by omega), by rw [List.length_take, List.length_drop, List.length_map]; exact small_line (by omega), hk⟩
        · have e : tups (((allO i).take j).flatMap fun o => (List.range (i + 1)).map fun s => grnW o s) ++ (List.range (i + 1)).map (fun s => D.tup (nats (grnW o s))) = tups (((allO i).take (j + 1)).flatMap fun o => (List.range (i + 1)).map fun s => grnW o s) := by
            rw [List.take_succ, ho, List.flatMap_append]
            unfold tups
            rw [List.map_append]
            congr 1
            simp
          have l1 := part (j + 1)
          have l2 : (tups (((allO i).take j).flatMap fun o => (List.range (i + 1)).map fun s => grnW o s)).length + ((List.range (i + 1)).map (fun s => D.tup (nats (grnW o s)))).length ≤ sizeLine := by
            rw [← List.length_append, e]
            unfold tups
            rw [List.length_map]
            exact small_line (by omega)
          refine ⟨l2, ?_⟩
          rw [e]
          exact hK1 _ _ ⟨rfl, _, _, rfl⟩
    · obtain ⟨rfl, y4, y5, rfl⟩ := hI1
      rw [show (tups (allO i)).length = (allO i).length by unfold tups; rw [List.length_map], List.take_length]
      simp
      exact hK _ _ ⟨rfl, _, _, _, _, rfl⟩
  · obtain ⟨rfl, y2, y3, y4, y5, rfl⟩ := hI
    simp
    exact ⟨_, Nat.le_refl _, hq⟩
theorem p_l_known (ds : List D) (g : Nat) (q : D → Nat → Prop) (ex : Exn → Nat → Prop) (hl : ds.length = 1) (h : d_l_known ds g q ex) : w_l_known ex (kEndS q) (startD ["_law_many", "_law_found", "_law_size", "_law_longer", "_law_steps_here", "_law_same", "_law_more"] ds) g := by
  obtain ⟨n, rfl, n1, n2, hq⟩ := h
  simp [w_l_known, -List.reduceReplicate]
  have e0 : rngL 2 ((n : Int) + 1) = (List.range' 2 (n - 1)).map fun i : Nat => D.int (i : Int) := by
    have := rngL_nn 2 (n + 1)
    rw [show n + 1 - 2 = n - 1 by omega] at this
    exact this
  rw [e0]
  refine ⟨small_line (by decide), ⟨by omega, by omega⟩, ?_⟩
  refine forW_word (M := stg) (fun i ρ g' => g' = g ∧ ∃ y2 y3 y4 y5 y6 : Sl, ρ = [.im (.int n), .im (.lst ((knwR i).map D.int)), y2, y3, y4, y5, y6]) _ ⟨rfl, .no, .no, .no, .no, .no, rfl⟩ (fun i d ρ g' K hd hI hK => ?_) (fun ρ g' hI => ?_)
  · obtain ⟨rfl, y2, y3, y4, y5, y6, rfl⟩ := hI
    have hi : i < n - 1 := by
      have := (List.getElem?_eq_some_iff.mp hd).1
      simpa using this
    have e : d = .int ((i + 2 : Nat) : Int) := by
      rw [List.getElem?_map, List.getElem?_range' (by omega)] at hd
      cases hd
      simp
      omega
    subst e
    simp [-Int.natCast_add, -List.reduceReplicate]
    rw [rngL_0]
    have lc := knwR_len i
    have eS : knwR (i + 1) = knwS (knwR i) (i + 2) := rfl
    rw [eS] at hK
    generalize knwR i = c at lc hK
    refine ⟨by omega, ?_⟩
    refine forW_word (M := stg) (fun k ρ g'' => g'' = g' ∧ ∃ y4 y5 y6 : Sl, ρ = [.im (.int n), .im (.lst (c.map D.int)), .im (.int ((i + 2 : Nat) : Int)), .own (((List.range k).map fun (k : Nat) => (if k < i + 2 - 1 then ((k : Int) + 1) * c.getD k 0 else 0) + (if 0 < k then (((i + 2 : Nat) : Int) - k) * c.getD (k - 1) 0 else 0)).map D.int), y4, y5, y6]) _ ⟨rfl, _, _, _, rfl⟩ (fun k d ρ g'' K1 hd1 hI1 hK1 => ?_) (fun ρ g'' hI1 => ?_)
    · obtain ⟨rfl, y4, y5, y6, rfl⟩ := hI1
      have hk : k < i + 2 := by
        have := (List.getElem?_eq_some_iff.mp hd1).1
        simpa using this
      have e : d = .int (k : Nat) := by
        rw [List.getElem?_map, List.getElem?_range hk] at hd1
        cases hd1
        rfl
      subst e
      rw [List.range_succ, List.map_append, List.map_append] at hK1
      simp only [List.map_cons, List.map_nil] at hK1
      have lm : ((List.range k).map fun (k : Nat) => (if k < i + 2 - 1 then ((k : Int) + 1) * c.getD k 0 else 0) + (if 0 < k then (((i + 2 : Nat) : Int) - k) * c.getD (k - 1) 0 else 0)).length = k := by simp
      generalize ((List.range k).map fun (k : Nat) => (if k < i + 2 - 1 then ((k : Int) + 1) * c.getD k 0 else 0) + (if 0 < k then (((i + 2 : Nat) : Int) - k) * c.getD (k - 1) 0 else 0)) = F at hK1 lm
      have at1 : k < i + 1 → (c.map D.int)[k]? = some (.int (c.getD k 0)) := fun h => ints_at (by omega)
      have at2 : 0 < k → (c.map D.int)[k - 1]? = some (.int (c.getD (k - 1) 0)) := fun h => ints_at (by omega)
      generalize c.getD k 0 = u at *
      generalize c.getD (k - 1) 0 = v at *
      simp [-Int.natCast_add, -List.reduceReplicate]
      have m1 : ∀ z : Int, CMul ((k : Int) + 1) z := fun z => .inl ⟨by omega, by omega⟩
      have m2 : ∀ z : Int, CMul (((i + 2 : Nat) : Int) - k) z := fun z => .inl ⟨by omega, by omega⟩
      have fl := lt_line (n := F.length) (by omega)
      by_cases c1 : k < i + 1
      · rw [if_pos (by omega)]
        rw [if_pos (by omega)] at hK1
        refine ⟨_, atI_ofNat (at1 c1), ?_⟩
        by_cases c2 : 0 < k
        · rw [if_pos c2] at hK1
          simp [-Int.natCast_add, c2]
          refine ⟨m1 _, _, by rw [show (k : Int) - 1 = ((k - 1 : Nat) : Int) by omega]; exact atI_ofNat (at2 c2), ?_⟩
          simp [-Int.natCast_add]
          exact ⟨m2 _, fl, hK1 _ _ ⟨rfl, _, _, _, rfl⟩⟩
        · rw [if_neg c2] at hK1
          simp [-Int.natCast_add, c2]
          exact ⟨m1 _, fl, hK1 _ _ ⟨rfl, .im (.int (k : Int)), .im (.int (((k : Int) + 1) * u)), .im (.int 0), by simp⟩⟩
      · rw [if_neg (by omega)]
        rw [if_neg (by omega)] at hK1
        by_cases c2 : 0 < k
        · rw [if_pos c2] at hK1
          simp [-Int.natCast_add, c2]
          refine ⟨_, by rw [show (k : Int) - 1 = ((k - 1 : Nat) : Int) by omega]; exact atI_ofNat (at2 c2), ?_⟩
          simp [-Int.natCast_add]
          exact ⟨m2 _, fl, hK1 _ _ ⟨rfl, .im (.int (k : Int)), .im (.int 0), .im (.int ((((i + 2 : Nat) : Int) - k) * v)), by simp⟩⟩
        · omega
    · obtain ⟨rfl, y4, y5, y6, rfl⟩ := hI1
      rw [List.length_map, List.length_range, show ((List.range (i + 2)).map fun (k : Nat) => (if k < i + 2 - 1 then ((k : Int) + 1) * c.getD k 0 else 0) + (if 0 < k then (((i + 2 : Nat) : Int) - k) * c.getD (k - 1) 0 else 0)) = knwS c (i + 2) from rfl]
      simp [-List.reduceReplicate]
      exact hK _ _ ⟨rfl, _, _, _, _, _, rfl⟩
  · obtain ⟨rfl, y2, y3, y4, y5, y6, rfl⟩ := hI
    rw [List.length_map, List.length_range']
    simp [-List.reduceReplicate]
    have ln := knwR_len (n - 1)
    have e : (knwR (n - 1)).map D.int ++ List.replicate 60 (D.int 0) = (knw n ++ List.replicate 60 0).map D.int := by
      rw [List.map_append, List.map_replicate]
      rfl
    rw [e]
    exact ⟨small_line (by decide), small_line (by decide), small_line (by omega), _, Nat.le_refl _, hq⟩
theorem sh_lints (c : List Int) : shp (.lst (c.map D.int)) = true := (sh_lst (k := 0) fun d hd => by
    obtain ⟨i, _, rfl⟩ := List.mem_map.mp hd
    exact sh_int i).ok (by decide)
theorem deq_lints (a b : List Int) : deq (.lst (a.map D.int)) (.lst (b.map D.int)) = decide (a = b) :=
  deq_dec (P := a = b) (by simpa [nb] using nb_ints a) (by simpa [nb] using nb_ints b) ⟨fun e => map_inj (f := D.int) (fun a b h => by injection h) (by injection e), fun e => by rw [e]⟩
theorem p_law : w_law kLaw (rhoLaw 7 1) (0 : Nat) := by
  simp [w_law, -List.reduceReplicate]
  refine draw_l (k := 6) (by decide) fun t ht => ?_
  simp [-List.reduceReplicate]
  rw [show (1 : Int) + (t : Int) = ((t + 1 : Nat) : Int) by omega]
  have ok := allO_ok (t + 1)
  have sm := allO_small (t + 1) (by omega)
  have cn := fun s h => cnt_all (n := t + 1) (s := s) (by omega) (by omega) h
  have lO : lensO (t + 1) = (allO (t + 1)).map fun o => (stpW o).length := rfl
  rw [lO] at cn
  generalize hm : t + 1 = m at *
  have m1 : 1 ≤ m := by omega
  have m6 : m ≤ 6 := by omega
  refine ⟨small_line (by decide), small_line (by decide), m, rfl, m6, _, rfl, ?_⟩
  generalize allO m = os at *
  have e0 : List.replicate 60 (D.int 0) = csN 60 [] := by
    unfold csN
    rw [List.replicate_succ]
    rfl
  rw [e0]
  unfold tups
  refine forW_word (M := stg) (fun i ρ (g : Nat) => g = 1 ∧ ∃ y4 y5 y6, ρ = [.no, .im (.ob 0), .im (.int (m : Nat)), .own (csN 60 ((os.take i).map fun o => (stpW o).length)), y4, y5, y6]) _ ⟨rfl, _, _, _, rfl⟩ (fun i d ρ g K hd hI hK => ?_) (fun ρ (g : Nat) hI => ?_)
  · obtain ⟨rfl, y4, y5, y6, rfl⟩ := hI
    rw [List.getElem?_map] at hd
    cases ho : os[i]? with
    | none => rw [ho] at hd; cases hd
    | some o =>
      rw [ho] at hd
      cases hd
      obtain ⟨o1, o2⟩ := ok o (List.mem_of_getElem? ho)
      have sl := stpW_len o
      have e : os.take (i + 1) = os.take i ++ [o] := by rw [List.take_succ, ho]; rfl
      rw [e, List.map_append] at hK
      generalize (os.take i).map (fun o => (stpW o).length) = X at *
      simp [-List.reduceReplicate]
      refine ⟨o, rfl, o1, by omega, ?_⟩
      simp [-List.reduceReplicate, nats_len]
      have xl : (stpW o).length < 60 := by omega
      refine ⟨_, atI_ofNat (csN_at xl), ?_⟩
      simp [-List.reduceReplicate]
      refine ⟨o, rfl, o1, by omega, ?_⟩
      simp [-List.reduceReplicate, nats_len]
      refine ⟨_, ixN_ofNat (by rw [csN_len]; exact xl), ?_⟩
      rw [csN_step xl]
      exact hK _ _ ⟨rfl, _, _, _, rfl⟩
  · obtain ⟨rfl, y4, y5, y6, rfl⟩ := hI
    rw [List.length_map, List.take_length]
    simp [-List.reduceReplicate]
    rw [show rngL 0 (41 : Int) = (List.range 41).map fun (i : Nat) => D.int (i : Int) from rngL_0 41]
    refine ⟨small_line (by simp), ?_⟩
    refine lcW_all (M := stg) (fun s : Nat => D.int (s : Int)) (fun s : Nat => D.int (eulW m s)) (List.range 41) (fun s hs k1 k0 h => ?_) ?_
    · have := List.mem_range.mp hs
      simp
      exact ⟨m, s, rfl, by omega, by omega, h⟩
    have e1 : cutL (csN 60 (os.map fun o => (stpW o).length)) none (some 41) = (List.range 41).map fun s => D.int (eulW m s) := by
      rw [show (41 : Int) = ((41 : Nat) : Int) from rfl, cut_to]
      unfold csN
      rw [← List.map_take, List.take_range]
      refine List.map_congr_left fun s hs => ?_
      have := List.mem_range.mp hs
      rw [eul_knw m1, cn s (by omega)]
    rw [e1, show (List.range 41).map (fun s => D.int (eulW m s)) = ((List.range 41).map (eulW m)).map D.int by rw [List.map_map]; rfl]
    refine ⟨sh_lints _, sh_lints _, by rw [deq_lints]; simp, ?_⟩
    refine draw_l (k := 40) (by decide) fun t1 ht1 => ?_
    simp [-List.reduceReplicate]
    refine draw_l (k := 40) (by decide) fun t2 ht2 => ?_
    simp [-List.reduceReplicate]
    refine ⟨small_line (by decide), ?_⟩
    have fN : ∀ d ∈ [D.int 1, .int 40, .int (1 + (t1 : Int)), .int (1 + (t2 : Int))], ∃ n : Nat, d = .int n ∧ 1 ≤ n ∧ n ≤ 40 := all_cons ⟨1, rfl, by decide, by decide⟩ (all_cons ⟨40, rfl, by decide, by decide⟩ (all_cons ⟨t1 + 1, by congr 1; omega, by omega, by omega⟩ (all_cons ⟨t2 + 1, by congr 1; omega, by omega, by omega⟩ all_nil)))
    have lN : [D.int 1, .int 40, .int (1 + (t1 : Int)), .int (1 + (t2 : Int))].length = 4 := rfl
    generalize [D.int 1, .int 40, .int (1 + (t1 : Int)), .int (1 + (t2 : Int))] = N at fN lN
    refine forW_word (M := stg) (fun i ρ (g : Nat) => (g = 3 + 2 * i ∧ i ≤ 4) ∧ ∃ y2 y3 y4 y5 y6, ρ = [.no, .im (.ob 0), y2, y3, y4, y5, y6]) _ ⟨⟨rfl, by decide⟩, _, _, _, _, _, rfl⟩ (fun i d ρ g K hd hI hK => ?_) (fun ρ (g : Nat) hI => ?_)
    · obtain ⟨⟨rfl, _⟩, y2, y3, y4, y5, y6, rfl⟩ := hI
      have hi : i < 4 := by
        have := (List.getElem?_eq_some_iff.mp hd).1
        omega
      obtain ⟨n, rfl, n1, n2⟩ := fN d (List.mem_of_getElem? hd)
      have kl := knw_len n1
      simp [-List.reduceReplicate]
      refine ⟨n, rfl, n1, n2, ?_⟩
      simp [-List.reduceReplicate]
      refine draw_l (k := 41) (by omega) fun s1 hs1 => ?_
      refine draw_n (by omega) (by omega) (by omega) fun s2 hs2 => ?_
      refine ⟨small_line (by decide), ?_⟩
      have fS : ∀ d ∈ [D.int 0, .int 1, .int ((n : Int) - 1), .int n, .int 40, .int s1, .int s2], ∃ s : Nat, d = .int s ∧ s ≤ 40 := all_cons ⟨0, rfl, by decide⟩ (all_cons ⟨1, rfl, by decide⟩ (all_cons ⟨n - 1, by congr 1; omega, by omega⟩ (all_cons ⟨n, rfl, n2⟩ (all_cons ⟨40, rfl, by decide⟩ (all_cons ⟨s1, rfl, by omega⟩ (all_cons ⟨s2, rfl, by omega⟩ all_nil))))))
      generalize [D.int 0, .int 1, .int ((n : Int) - 1), .int n, .int 40, .int s1, .int s2] = L at fS
      have eK : (knw n).map D.int ++ List.replicate 60 (D.int 0) = (knw n ++ List.replicate 60 0).map D.int := by rw [List.map_append, List.map_replicate]
      rw [eK]
      refine forW_word (M := stg) (fun l ρ (g : Nat) => g = 3 + 2 * i + 1 + 1 ∧ ∃ y5, ρ = [.no, .im (.ob 0), .im (.int (n : Nat)), y3, y4, y5, .im (.lst ((knw n ++ List.replicate 60 0).map D.int))]) _ ⟨rfl, _, rfl⟩ (fun l e ρ g1 K1 hd1 hI1 hK1 => ?_) (fun ρ g1 hI1 => ?_)
      · obtain ⟨rfl, y5, rfl⟩ := hI1
        obtain ⟨s, rfl, hs⟩ := fS e (List.mem_of_getElem? hd1)
        have at_ : ((knw n ++ List.replicate 60 0).map D.int)[s]? = some (.int (eulW n s)) := by
          rw [ints_at (by rw [List.length_append, List.length_replicate]; omega), getD_pad, eul_knw n1]
        have rb2 : RB ((51 + 2) * 2 + 2) 1 (.lst [.int (eulW n s), .int (eulW n s)]) := rb_lst (ds := [.int (eulW n s), .int (eulW n s)]) fun d hd => by
          have := rb_int (k := 50) (by decide) (show (eulW n s).natAbs < 10 ^ 50 by rw [eul_knw n1]; exact knw_at n2) (by decide)
          rcases List.mem_cons.mp hd with rfl | hd
          · exact this
          · rw [List.mem_singleton.mp hd]; exact this
        generalize (knw n ++ List.replicate 60 0).map D.int = Z at *
        simp [-List.reduceReplicate]
        refine ⟨n, s, rfl, by omega, by omega, n, s, rfl, by omega, by omega, small_line (by decide), rep_call rb2 (by decide) (by decide) ⟨_, atI_ofNat at_, ?_⟩⟩
        refine ⟨small_line (by decide), small_line (by decide), ?_⟩
        rw [show List.replicate 2 (D.int (eulW n s)) = [.int (eulW n s), .int (eulW n s)] from rfl]
        refine rep_call rb2 (by decide) (by decide) ?_
        simp
        exact hK1 _ _ ⟨rfl, _, rfl⟩
      · obtain ⟨rfl, y5, rfl⟩ := hI1
        simp [-List.reduceReplicate]
        rw [rngL_0, cut_to]
        have e3 : ((knw n).map D.int ++ List.replicate 60 (D.int 0)).take n = (knw n).map D.int := by
          rw [List.take_append_of_le_length (by rw [List.length_map]; omega), List.take_of_length_le (by rw [List.length_map]; omega)]
        rw [e3, ← List.map_reverse, knw_sym n1 n2]
        refine ⟨by omega, small_line (by simp; omega), ?_⟩
        refine lcW_all (M := stg) (fun s : Nat => D.int (s : Int)) (fun s : Nat => D.int (eulW n s)) (List.range n) (fun s hs k1 k0 h => ?_) ?_
        · have := List.mem_range.mp hs
          simp
          exact ⟨n, s, rfl, by omega, by omega, h⟩
        have e4 : (List.range n).map (fun s => D.int (eulW n s)) = (knw n).map D.int := by
          refine List.ext_getElem? fun s => ?_
          by_cases hs : s < n
          · rw [List.getElem?_map, List.getElem?_range hs, ints_at (by omega), ← eul_knw n1]
            rfl
          · rw [List.getElem?_eq_none (by simp; omega), List.getElem?_eq_none (by rw [List.length_map]; omega)]
        rw [e4]
        refine ⟨sh_lints _, sh_lints _, by rw [deq_lints]; simp, ?_⟩
        exact hK _ _ ⟨⟨by omega, by omega⟩, _, _, _, _, _, rfl⟩
    · obtain ⟨_, y2, y3, y4, y5, y6, rfl⟩ := hI
      simp
end LW
set_option Elab.async false
set_option linter.all false
set_option maxRecDepth 100000
set_option maxHeartbeats 4000000
namespace LW
open PySem L2 DL
theorem all_mk {l : PySem.W.OpenLaw} {w : World} {K : PySem.W.Frag} {h : Heap} {mg : Str → Option Value} {fa f1 f2 f3 f4 f5 f6 f7 : Addr} (X : K.In h) (G : h.Ns mainGlobals mg) (hfa : mg "law" = some (.ref fa))
    {od1 an1 od2 an2 od3 an3 od4 an4 od5 an5 od6 an6 od7 an7 : Option Addr} {sl1 sl2 sl3 sl4 sl5 sl6 sl7 : Array (Option Value)} {oc1 kV1 dc1 pm1 cd1 ct1 oc2 kV2 dc2 pm2 cd2 ct2 oc3 kV3 dc3 pm3 cd3 ct3 oc4 kV4 dc4 pm4 cd4 ct4 oc5 kV5 dc5 pm5 cd5 ct5 oc6 kV6 dc6 pm6 cd6 ct6 oc7 kV7 dc7 pm7 cd7 ct7 : Value}
    (a1 : PySem.W.nsIn K mainGlobals "count_orders" = some (some (.ref f1))) (l1 : K.lookup f1 = some ⟨oc1, od1, .func (PySem.W.fnOf "count_orders" "count_orders" (defArgs s_count_orders) (defBody s_count_orders) (defScope s_count_orders) .none kV1 dc1 pm1 an1 cd1 ct1), sl1⟩) (c1 : PySem.W.codeIn K cd1 "count_orders" = true) (k1 : PySem.W.keepIn K (.ref f1) = true)
    (a2 : PySem.W.nsIn K mainGlobals "_law_stream" = some (some (.ref f2))) (l2 : K.lookup f2 = some ⟨oc2, od2, .func (PySem.W.fnOf "_law_stream" "_law_stream" (defArgs sStream) (defBody sStream) (defScope sStream) .none kV2 dc2 pm2 an2 cd2 ct2), sl2⟩) (c2 : PySem.W.codeIn K cd2 "_law_stream" = true) (k2 : PySem.W.keepIn K (.ref f2) = true)
    (a3 : PySem.W.nsIn K mainGlobals "_law_draw" = some (some (.ref f3))) (l3 : K.lookup f3 = some ⟨oc3, od3, .func (PySem.W.fnOf "_law_draw" "_law_draw" (defArgs sDraw) (defBody sDraw) (defScope sDraw) .none kV3 dc3 pm3 an3 cd3 ct3), sl3⟩) (c3 : PySem.W.codeIn K cd3 "_law_draw" = true) (k3 : PySem.W.keepIn K (.ref f3) = true)
    (a4 : PySem.W.nsIn K mainGlobals "_law_steps" = some (some (.ref f4))) (l4 : K.lookup f4 = some ⟨oc4, od4, .func (PySem.W.fnOf "_law_steps" "_law_steps" (defArgs s_l_steps) (defBody s_l_steps) (defScope s_l_steps) .none kV4 dc4 pm4 an4 cd4 ct4), sl4⟩) (c4 : PySem.W.codeIn K cd4 "_law_steps" = true) (k4 : PySem.W.keepIn K (.ref f4) = true)
    (a5 : PySem.W.nsIn K mainGlobals "_law_all_orders" = some (some (.ref f5))) (l5 : K.lookup f5 = some ⟨oc5, od5, .func (PySem.W.fnOf "_law_all_orders" "_law_all_orders" (defArgs s_l_all_orders) (defBody s_l_all_orders) (defScope s_l_all_orders) .none kV5 dc5 pm5 an5 cd5 ct5), sl5⟩) (c5 : PySem.W.codeIn K cd5 "_law_all_orders" = true) (k5 : PySem.W.keepIn K (.ref f5) = true)
    (a6 : PySem.W.nsIn K mainGlobals "_law_known" = some (some (.ref f6))) (l6 : K.lookup f6 = some ⟨oc6, od6, .func (PySem.W.fnOf "_law_known" "_law_known" (defArgs s_l_known) (defBody s_l_known) (defScope s_l_known) .none kV6 dc6 pm6 an6 cd6 ct6), sl6⟩) (c6 : PySem.W.codeIn K cd6 "_law_known" = true) (k6 : PySem.W.keepIn K (.ref f6) = true)
    (a7 : PySem.W.nsIn K mainGlobals "law" = some (some (.ref f7))) (l7 : K.lookup f7 = some ⟨oc7, od7, .func (PySem.W.fnOf "law" "law" (defArgs s_law) (defBody s_law) (defScope s_law) .none kV7 dc7 pm7 an7 cd7 ct7), sl7⟩) (c7 : PySem.W.codeIn K cd7 "law" = true) (k7 : PySem.W.keepIn K (.ref f7) = true)
    (z1 : PySem.W.nsIn K mainGlobals "abs" = some none)
    (z2 : PySem.W.nsIn K mainGlobals "enumerate" = some none)
    (z3 : PySem.W.nsIn K mainGlobals "len" = some none)
    (z4 : PySem.W.nsIn K mainGlobals "range" = some none)
    (z5 : PySem.W.nsIn K mainGlobals "repr" = some none)
    (z6 : PySem.W.nsIn K mainGlobals "tuple" = some none)
    (z7 : PySem.W.nsIn K mainGlobals "zip" = some none)
    : ∃ fd : FuncData, (∀ (s : Shared) (v : Value), BindsTo s fd ⟨[v], []⟩ [("_law_script", v)]) ∧ ∀ base : Heap, K.In base → base.Ns mainGlobals mg → SmB base → FnG l.prog w K mg base 2 fa fd ["_law_script"] (spLaw K) := by
  have e := hfa.symm.trans (PySem.W.mg_of X G a7)
  cases e
  have F1 := fun_mk (st := s_count_orders) l1 c1 k1
  have F2 := fun_mk (st := sStream) l2 c2 k2
  have F3 := fun_mk (st := sDraw) l3 c3 k3
  have F4 := fun_mk (st := s_l_steps) l4 c4 k4
  have F5 := fun_mk (st := s_l_all_orders) l5 c5 k5
  have F6 := fun_mk (st := s_l_known) l6 c6 k6
  have F7 := fun_mk (st := s_law) l7 c7 k7
  have g1 := PySem.W.mg_of X G a1
  have g2 := PySem.W.mg_of X G a2
  have g3 := PySem.W.mg_of X G a3
  have g4 := PySem.W.mg_of X G a4
  have g5 := PySem.W.mg_of X G a5
  have g6 := PySem.W.mg_of X G a6
  have g7 := PySem.W.mg_of X G a7
  have m_abs := PySem.W.mg_none_of X G z1
  have m_enumerate := PySem.W.mg_none_of X G z2
  have m_len := PySem.W.mg_none_of X G z3
  have m_range := PySem.W.mg_none_of X G z4
  have m_repr := PySem.W.mg_none_of X G z5
  have m_tuple := PySem.W.mg_none_of X G z6
  have m_zip := PySem.W.mg_none_of X G z7
  have bs := F2.binds (ps := ["_law_script"]) fun _ _ _ _ _ _ us hl => match us, hl with | [_], _ => rfl
  have bd := F3.binds (ps := ["_law_stream_here", "_law_many"]) fun _ _ _ _ _ _ us hl => match us, hl with | [_, _], _ => rfl
  refine ⟨PySem.W.fnOf "law" "law" (defArgs s_law) (defBody s_law) (defScope s_law) .none kV7 dc7 pm7 an7 cd7 ct7, fun s v => .of_eq rfl, fun base _ _ m_sm => ?_⟩
  have F_l_draw := fnB_of F3 g3 (ok_draw (P := l.prog) (w := w) (base := base) F3 m_len) bd
  have FS := ok_stream (P := l.prog) (w := w) (mg := mg) (base := base) F2 m_len m_abs
  have F_count_orders := ok_count_orders (P := l.prog) (w := w) (base := base) F1 g1 m_enumerate m_range m_zip p_count_orders
  have F_l_steps := ok_l_steps (P := l.prog) (w := w) (base := base) F4 g4 m_len m_range p_l_steps
  have F_l_all_orders := ok_l_all_orders (P := l.prog) (w := w) (base := base) F5 g5 m_range m_tuple p_l_all_orders
  have F_l_known := ok_l_known (P := l.prog) (w := w) (base := base) F6 g6 m_range p_l_known
  exact ok_law (P := l.prog) (w := w) (base := base) F7 FS g2 k2 bs F_l_draw F_l_all_orders F_l_steps F_count_orders F_l_known m_len m_range m_repr m_sm p_law
end LW
open PySem PySem.W PyProof.Rows
set_option maxHeartbeats 0 in
theorem PySem.Challenge.cw_tailranks_k24_orders_counted_holds : PySem.Challenge.rw_tailranks_k24_orders_counted.Holds := by
  w_on; o_law; k_head; (case hw => w_witness2)
  k_fill
  refine DL.walkG (l := PySem.Challenge.rw_tailranks_k24_orders_counted) (n := 63) (k := 2) (x := "_law_script") (sp := fun w => DL.spLaw _) rfl (by decide +kernel) (by decide) rfl ⟨rfl, by decide, by decide⟩ (fun w h Y => PySem.W.kIn_of Y) ?F (fun _ _ a ns hl hS => ⟨a, ns, rfl, hS, hl, fun _ => rfl⟩)
  case F =>
    intro w mg fa h KX G hmg
    refine' LW.all_mk KX G hmg ?a1 ?l1 ?c1 ?k1 ?a2 ?l2 ?c2 ?k2 ?a3 ?l3 ?c3 ?k3 ?a4 ?l4 ?c4 ?k4 ?a5 ?l5 ?c5 ?k5 ?a6 ?l6 ?c6 ?k6 ?a7 ?l7 ?c7 ?k7 ?z1 ?z2 ?z3 ?z4 ?z5 ?z6 ?z7
    (case a1 => k_is); (case l1 => k_is); (case c1 => k_is); (case k1 => k_is); (case a2 => k_is); (case l2 => k_is); (case c2 => k_is); (case k2 => k_is); (case a3 => k_is); (case l3 => k_is); (case c3 => k_is); (case k3 => k_is); (case a4 => k_is); (case l4 => k_is); (case c4 => k_is); (case k4 => k_is); (case a5 => k_is); (case l5 => k_is); (case c5 => k_is); (case k5 => k_is); (case a6 => k_is); (case l6 => k_is); (case c6 => k_is); (case k6 => k_is); (case a7 => k_is); (case l7 => k_is); (case c7 => k_is); (case k7 => k_is); (case z1 => k_is); (case z2 => k_is); (case z3 => k_is); (case z4 => k_is); (case z5 => k_is); (case z6 => k_is); (case z7 => k_is)
